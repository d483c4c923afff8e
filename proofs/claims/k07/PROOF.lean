import PyProof.Rows.All
import Wide.All
import OpenK.AllK
import Wide.FinOn
import HandS.ForMost
import HandS.ForExc
import HandS.Wide
import HandS.WideBits
import HandS.TupAny
import HandS.IsInst
import HandS.More
import HandS.Deep
import KE.KDictPairs
import HandS.DictComp
import PyProof.Rows.SortShellAny
import HandS.CallSlots
import HandS.ExcCtx
import HandS.SetTxt0
import HandS.Set
import HandS.TupSets
import HandS.Strs
import HandS.SetFor
import HandS.Defaults
import HandS.Head0
import HandS.Head1
import HandS.Head2
import HandS.HeadEnd
import HandS.HeadHook1
import HandS.HeadHook2
import KE.KIntText
import KE.KxLen
import Lean
import PySem.Challenge.RW_measurekind_k07_alike_told
set_option Elab.async false
set_option linter.all false
set_option maxRecDepth 100000
set_option maxHeartbeats 0
set_option exponentiation.threshold 2000
/-! MP: an evaluator over deep values, sound for the hand layer's readings. -/
namespace MP
open PySem PySem.Spec PyProof.Rows L2

/-! ### deep values -/
inductive D where
  | non | bl (b : Bool) | int (i : Int) | str (s : Str) | tup (l : List D) | lst (l : List D) | dic (l : List (Str × D)) | scr (ns : List Int)
/-- a tuple, its very object told: one without a dict of its own -/
def TupF (F : Hp) (a : Addr) (vs : List V) : Prop := ∃ o : Obj, F a = some (.frz o (.tup vs)) ∧ o.dict = none
theorem TupF.sqt {K : PySem.W.Frag} {F : Hp} {a : Addr} {vs : List V} (h : TupF F a vs) : SqT K F a vs := let ⟨o, e, _⟩ := h; .inl (.inr ⟨o, e⟩)
mutual
def Rep (K : PySem.W.Frag) (F : Hp) : D → V → Prop
  | .non, v => v = .non
  | .bl b, v => v = .bl b
  | .int i, v => v = .int i
  | .str s, v => v = .str s
  | .tup ds, v => ∃ a vs, v = .ref a ∧ TupF F a vs ∧ Reps K F ds vs
  | .lst ds, v => ∃ a vs, v = .ref a ∧ F a = some (.lst vs) ∧ Reps K F ds vs
  | .dic ks, v => ∃ a vs, v = .ref a ∧ Rd F a (.dK vs) ∧ RepKs K F ks vs
  | .scr ns, v => ∃ a, v = .ref a ∧ SqL K F a (ns.map V.int)
def Reps (K : PySem.W.Frag) (F : Hp) : List D → List V → Prop
  | [], vs => vs = []
  | d :: ds, vs => ∃ v r, vs = v :: r ∧ Rep K F d v ∧ Reps K F ds r
def RepKs (K : PySem.W.Frag) (F : Hp) : List (Str × D) → List (Key × V) → Prop
  | [], vs => vs = []
  | (k, d) :: ds, vs => ∃ v r, vs = (.inr k, v) :: r ∧ Rep K F d v ∧ RepKs K F ds r
end
def Sub (F F' : Hp) : Prop := ∀ a o, F a = some o → F' a = some o
theorem Sub.refl (F : Hp) : Sub F F := fun _ _ h => h
theorem Sub.trans {F G H : Hp} (a : Sub F G) (b : Sub G H) : Sub F H := fun x o h => b x o (a x o h)
theorem Sub.rd {F G : Hp} (s : Sub F G) {a : Addr} {u : HO} (h : Rd F a u) : Rd G a u := by
  rcases h with h | ⟨o, h⟩
  · exact .inl (s _ _ h)
  · exact .inr ⟨o, s _ _ h⟩
theorem Sub.sqt {K : PySem.W.Frag} {F G : Hp} (s : Sub F G) {a : Addr} {u : List V} (h : SqT K F a u) : SqT K G a u := by
  rcases h with h | h
  · exact .inl (s.rd h)
  · exact .inr h
theorem Sub.tup {F G : Hp} (s : Sub F G) {a : Addr} {u : List V} (h : TupF F a u) : TupF G a u := let ⟨o, e, d⟩ := h; ⟨o, s _ _ e, d⟩
theorem Sub.sql {K : PySem.W.Frag} {F G : Hp} (s : Sub F G) {a : Addr} {u : List V} (h : SqL K F a u) : SqL K G a u := by
  rcases h with h | h
  · exact .inl (s.rd h)
  · exact .inr h
section
variable {K : PySem.W.Frag} {F G : Hp}
mutual
theorem Rep.mono (s : Sub F G) : ∀ (d : D) (v : V), Rep K F d v → Rep K G d v
  | .non, _, h => h
  | .bl _, _, h => h
  | .int _, _, h => h
  | .str _, _, h => h
  | .tup ds, _, h => by
    simp only [Rep] at h ⊢
    obtain ⟨a, vs, e, q, r⟩ := h
    exact ⟨a, vs, e, s.tup q, Reps.mono s ds vs r⟩
  | .lst ds, _, h => by
    simp only [Rep] at h ⊢
    obtain ⟨a, vs, e, q, r⟩ := h
    exact ⟨a, vs, e, s _ _ q, Reps.mono s ds vs r⟩
  | .dic ds, _, h => by
    simp only [Rep] at h ⊢
    obtain ⟨a, vs, e, q, r⟩ := h
    exact ⟨a, vs, e, s.rd q, RepKs.mono s ds vs r⟩
  | .scr ns, _, h => by
    simp only [Rep] at h ⊢
    obtain ⟨a, e, q⟩ := h
    exact ⟨a, e, s.sql q⟩
theorem Reps.mono (s : Sub F G) : ∀ (d : List D) (v : List V), Reps K F d v → Reps K G d v
  | [], _, h => by simp only [Reps] at h ⊢; exact h
  | d :: ds, _, h => by
    simp only [Reps] at h ⊢
    obtain ⟨v, r, e, h1, h2⟩ := h
    exact ⟨v, r, e, Rep.mono s d v h1, Reps.mono s ds r h2⟩
theorem RepKs.mono (s : Sub F G) : ∀ (d : List (Str × D)) (v : List (Key × V)), RepKs K F d v → RepKs K G d v
  | [], _, h => by simp only [RepKs] at h ⊢; exact h
  | (k, d) :: ds, _, h => by
    simp only [RepKs] at h ⊢
    obtain ⟨v, r, e, h1, h2⟩ := h
    exact ⟨v, r, e, Rep.mono s d v h1, RepKs.mono s ds r h2⟩
end
theorem Reps.nil : Reps K F [] [] := by simp only [Reps]
theorem Reps.cons {d : D} {v : V} {ds : List D} {vs : List V} (h : Rep K F d v) (t : Reps K F ds vs) : Reps K F (d :: ds) (v :: vs) := by simp only [Reps]; exact ⟨v, vs, rfl, h, t⟩
theorem Reps.length : ∀ {ds : List D} {vs : List V}, Reps K F ds vs → vs.length = ds.length
  | [], _, h => by simp only [Reps] at h; subst h; rfl
  | d :: ds, _, h => by
    simp only [Reps] at h
    obtain ⟨v, r, rfl, _, h2⟩ := h
    simp only [List.length_cons, Reps.length h2]
theorem Reps.append : ∀ {ds es : List D} {vs us : List V}, Reps K F ds vs → Reps K F es us → Reps K F (ds ++ es) (vs ++ us)
  | [], _, _, _, h, q => by simp only [Reps] at h; subst h; exact q
  | d :: ds, _, _, _, h, q => by
    simp only [Reps] at h
    obtain ⟨v, r, rfl, h1, h2⟩ := h
    exact Reps.cons h1 (Reps.append h2 q)
theorem Reps.get : ∀ {ds : List D} {vs : List V} {i : Nat} {d : D}, Reps K F ds vs → ds[i]? = some d → ∃ v, vs[i]? = some v ∧ Rep K F d v
  | [], _, _, _, _, e => by simp at e
  | d :: ds, _, 0, _, h, e => by
    simp only [Reps] at h
    obtain ⟨v, r, rfl, h1, h2⟩ := h
    simp at e; subst e
    exact ⟨v, rfl, h1⟩
  | d :: ds, _, i + 1, _, h, e => by
    simp only [Reps] at h
    obtain ⟨v, r, rfl, h1, h2⟩ := h
    obtain ⟨u, e1, e2⟩ := Reps.get (i := i) h2 (by simpa using e)
    exact ⟨u, by simpa using e1, e2⟩
theorem Reps.get' : ∀ {ds : List D} {vs : List V} {i : Nat} {v : V}, Reps K F ds vs → vs[i]? = some v → ∃ d, ds[i]? = some d ∧ Rep K F d v := fun {ds vs i v} h e => by
  have hi : i < ds.length := by rw [← h.length]; exact (List.getElem?_eq_some_iff.mp e).1
  obtain ⟨u, e1, e2⟩ := h.get (List.getElem?_eq_getElem hi)
  rw [e] at e1; cases e1
  exact ⟨_, List.getElem?_eq_getElem hi, e2⟩
theorem Reps.take : ∀ {ds : List D} {vs : List V} (n : Nat), Reps K F ds vs → Reps K F (ds.take n) (vs.take n)
  | [], _, n, h => by simp only [Reps] at h; subst h; simp [Reps]
  | d :: ds, _, 0, h => by simp [Reps]
  | d :: ds, _, n + 1, h => by
    simp only [Reps] at h
    obtain ⟨v, r, rfl, h1, h2⟩ := h
    exact Reps.cons h1 (h2.take n)
theorem Reps.drop : ∀ {ds : List D} {vs : List V} (n : Nat), Reps K F ds vs → Reps K F (ds.drop n) (vs.drop n)
  | [], _, n, h => by simp only [Reps] at h; subst h; simp [Reps]
  | d :: ds, _, 0, h => h
  | d :: ds, _, n + 1, h => by
    simp only [Reps] at h
    obtain ⟨v, r, rfl, h1, h2⟩ := h
    exact h2.drop n
theorem Reps.set : ∀ {ds : List D} {vs : List V} {d : D} {v : V} (n : Nat), Rep K F d v → Reps K F ds vs → Reps K F (ds.set n d) (vs.set n v)
  | [], _, _, _, n, _, h => by simp only [Reps] at h; subst h; simp [Reps]
  | d :: ds, _, _, _, 0, q, h => by
    simp only [Reps] at h
    obtain ⟨v, r, rfl, h1, h2⟩ := h
    exact Reps.cons q h2
  | d :: ds, _, _, _, n + 1, q, h => by
    simp only [Reps] at h
    obtain ⟨v, r, rfl, h1, h2⟩ := h
    exact Reps.cons h1 (h2.set n q)
theorem reps_ints : ∀ {ns : List Int} {vs : List V}, Reps K F (ns.map D.int) vs → vs = ns.map V.int
  | [], _, h => by simpa [Reps] using h
  | n :: ns, _, h => by
    simp only [List.map_cons, Reps, Rep] at h
    obtain ⟨v, r, rfl, rfl, h2⟩ := h
    rw [reps_ints h2]; rfl
theorem reps_bls : ∀ {ns : List Bool} {vs : List V}, Reps K F (ns.map D.bl) vs → vs = ns.map V.bl
  | [], _, h => by simpa [Reps] using h
  | n :: ns, _, h => by
    simp only [List.map_cons, Reps, Rep] at h
    obtain ⟨v, r, rfl, rfl, h2⟩ := h
    rw [reps_bls h2]; rfl
theorem reps_strs : ∀ {ns : List Str} {vs : List V}, Reps K F (ns.map D.str) vs → vs = ns.map V.str
  | [], _, h => by simpa [Reps] using h
  | n :: ns, _, h => by
    simp only [List.map_cons, Reps, Rep] at h
    obtain ⟨v, r, rfl, rfl, h2⟩ := h
    rw [reps_strs h2]; rfl
theorem reps_of_strs : ∀ {ns : List Str}, Reps K F (ns.map D.str) (ns.map V.str)
  | [] => Reps.nil
  | n :: ns => Reps.cons (by simp only [Rep]) reps_of_strs
end
/-! ### dicts -/
/-- d[k], by D -/
def dget (ks : List (Str × D)) (k : Str) : Option D := (ks.find? fun p => decide (p.1 = k)).map (·.2)
def dput (ks : List (Str × D)) (k : Str) (v : D) : List (Str × D) :=
  if ks.any (fun p => decide (p.1 = k)) then ks.map fun p => if p.1 = k then (p.1, v) else p else ks ++ [(k, v)]
def ddrop (ks : List (Str × D)) (k : Str) : List (Str × D) := ks.filter fun p => decide (p.1 ≠ k)
section
variable {K : PySem.W.Frag} {F G : Hp}
theorem RepKs.nil : RepKs K F [] [] := by simp only [RepKs]
theorem RepKs.cons {k : Str} {d : D} {v : V} {ds : List (Str × D)} {vs : List (Key × V)} (h : Rep K F d v) (t : RepKs K F ds vs) : RepKs K F ((k, d) :: ds) ((.inr k, v) :: vs) := by simp only [RepKs]; exact ⟨v, vs, rfl, h, t⟩
theorem RepKs.length : ∀ {ds : List (Str × D)} {vs : List (Key × V)}, RepKs K F ds vs → vs.length = ds.length
  | [], _, h => by simp only [RepKs] at h; subst h; rfl
  | (k, d) :: ds, _, h => by
    simp only [RepKs] at h
    obtain ⟨v, r, rfl, _, h2⟩ := h
    simp only [List.length_cons, RepKs.length h2]
theorem RepKs.append : ∀ {ds es : List (Str × D)} {vs us : List (Key × V)}, RepKs K F ds vs → RepKs K F es us → RepKs K F (ds ++ es) (vs ++ us)
  | [], _, _, _, h, q => by simp only [RepKs] at h; subst h; exact q
  | (k, d) :: ds, _, _, _, h, q => by
    simp only [RepKs] at h
    obtain ⟨v, r, rfl, h1, h2⟩ := h
    exact RepKs.cons h1 (RepKs.append h2 q)
theorem inr_iff {k j : Str} : ((Sum.inr k : Key) = Sum.inr j) ↔ k = j := ⟨Sum.inr.inj, fun e => by rw [e]⟩
theorem RepKs.val : ∀ {ds : List (Str × D)} {vs : List (Key × V)} (k : Str), RepKs K F ds vs →
    (∃ d v, dget ds k = some d ∧ valV vs (Sum.inr k) = some v ∧ Rep K F d v) ∨ (dget ds k = none ∧ valV vs (Sum.inr k) = none)
  | [], _, k, h => by simp only [RepKs] at h; subst h; exact .inr ⟨rfl, rfl⟩
  | (j, d) :: ds, _, k, h => by
    simp only [RepKs] at h
    obtain ⟨v, r, rfl, h1, h2⟩ := h
    by_cases e : j = k
    · subst e
      exact .inl ⟨d, v, by simp [dget], by simp [valV], h1⟩
    · have e' : ¬ (Sum.inr j : Key) = Sum.inr k := fun q => e (Sum.inr.inj q)
      have q1 : dget ((j, d) :: ds) k = dget ds k := by simp [dget, List.find?_cons, e]
      rw [q1, valV_neg (p := (Sum.inr j, v)) e']
      exact RepKs.val k h2
theorem RepKs.any : ∀ {ds : List (Str × D)} {vs : List (Key × V)} (k : Str), RepKs K F ds vs → (vs.any fun p => decide (p.1 = Sum.inr k)) = ds.any fun p => decide (p.1 = k)
  | [], _, k, h => by simp only [RepKs] at h; subst h; rfl
  | (j, d) :: ds, _, k, h => by
    simp only [RepKs] at h
    obtain ⟨v, r, rfl, h1, h2⟩ := h
    simp only [List.any_cons, RepKs.any k h2, key_rr]
theorem RepKs.repl : ∀ {ds : List (Str × D)} {vs : List (Key × V)} (k : Str) {d : D} {v : V}, Rep K F d v → RepKs K F ds vs →
    RepKs K F (ds.map fun p => if p.1 = k then (p.1, d) else p) (vs.map fun p => if p.1 = Sum.inr k then (p.1, v) else p)
  | [], _, k, _, _, _, h => by simp only [RepKs] at h; subst h; exact RepKs.nil
  | (j, d') :: ds, _, k, _, _, q, h => by
    simp only [RepKs] at h
    obtain ⟨v, r, rfl, h1, h2⟩ := h
    by_cases e : j = k
    · subst e
      simp only [List.map_cons, if_pos]
      exact RepKs.cons q (RepKs.repl _ q h2)
    · have e' : ¬ (Sum.inr j : Key) = Sum.inr k := fun q => e (Sum.inr.inj q)
      simp only [List.map_cons, if_neg e, if_neg e']
      exact RepKs.cons h1 (RepKs.repl _ q h2)
theorem RepKs.put {ds : List (Str × D)} {vs : List (Key × V)} {k : Str} {d : D} {v : V} (q : Rep K F d v) (h : RepKs K F ds vs) : RepKs K F (dput ds k d) (putK vs (Sum.inr k) v) := by
  unfold dput putK
  rw [h.any k]
  split
  · exact RepKs.repl k q h
  · exact RepKs.append h (RepKs.cons q RepKs.nil)
theorem RepKs.drop : ∀ {ds : List (Str × D)} {vs : List (Key × V)} (k : Str), RepKs K F ds vs → RepKs K F (ddrop ds k) (dropK vs (Sum.inr k))
  | [], _, k, h => by simp only [RepKs] at h; subst h; exact RepKs.nil
  | (j, d) :: ds, _, k, h => by
    simp only [RepKs] at h
    obtain ⟨v, r, rfl, h1, h2⟩ := h
    have ih := RepKs.drop k h2
    unfold ddrop dropK at ih ⊢
    by_cases e : j = k
    · subst e
      simp only [List.filter_cons, ne_eq, not_true_eq_false, decide_false, Bool.false_eq_true, if_false]
      exact ih
    · have e' : ¬ (Sum.inr j : Key) = Sum.inr k := fun q => e (Sum.inr.inj q)
      simp only [List.filter_cons, ne_eq, e, e', not_false_eq_true, decide_true, if_true]
      exact RepKs.cons h1 ih
theorem RepKs.keys : ∀ {ds : List (Str × D)} {vs : List (Key × V)}, RepKs K F ds vs → vs.map (·.1) = (ds.map (·.1)).map Sum.inr
  | [], _, h => by simp only [RepKs] at h; subst h; rfl
  | (j, d) :: ds, _, h => by
    simp only [RepKs] at h
    obtain ⟨v, r, rfl, h1, h2⟩ := h
    simp only [List.map_cons, RepKs.keys h2]
end
end MP

namespace MP
open PySem PySem.Spec PyProof.Rows L2
/-! ### results -/
inductive Exn where
  | own (c : Str)
  | own2 (c : Str) (a b : D)
inductive R (α : Type) where
  | ok (a : α) | err (x : Exn) | stuck
def R.bind {α β : Type} (r : R α) (f : α → R β) : R β := match r with
  | .ok a => f a
  | .err x => .err x
  | .stuck => .stuck
@[simp] theorem R.bind_ok {α β : Type} (a : α) (f : α → R β) : (R.ok a).bind f = f a := rfl
@[simp] theorem R.bind_err {α β : Type} (a : Exn) (f : α → R β) : (R.err a).bind f = R.err a := rfl
@[simp] theorem R.bind_stuck {α β : Type} (f : α → R β) : (R.stuck).bind f = R.stuck := rfl
noncomputable def grd {α : Type} (p : Prop) (r : R α) : R α := by classical exact if p then r else .stuck
theorem grd_pos {α : Type} {p : Prop} (h : p) (r : R α) : grd p r = r := by unfold grd; simp [h]
theorem grd_neg {α : Type} {p : Prop} (h : ¬ p) (r : R α) : grd p r = .stuck := by unfold grd; simp [h]
/-- how a value is held: as part of what is frozen, as a new object of nobody's, as an owned slot's object -/
inductive Kd where
  | fz | fr | bo
abbrev DK := D × Kd
abbrev M := List D → R DK
abbrev SD := List (Option (D × Bool))

section
variable (K : PySem.W.Frag)
/-- a list or dict that stands at a -/
def Cell (F H : Hp) : D → Addr → Prop
  | .lst ds, a => ∃ vs, H a = some (.lst vs) ∧ Reps K F ds vs
  | .dic ks, a => ∃ vs, H a = some (.dK vs) ∧ RepKs K F ks vs
  | _, _ => False
structure SL (σD : SD) (σ : List (Option V)) (F H : Hp) : Prop where
  sub : Sub F H
  fz : ∀ (i : Nat) (d : D), σD[i]? = some (some (d, false)) → ∃ v, σ[i]? = some (some v) ∧ Rep K F d v
  ow : ∀ (i : Nat) (d : D), σD[i]? = some (some (d, true)) → ∃ a, σ[i]? = some (some (.ref a)) ∧ F a = none ∧ Cell K F H d a
  dis : ∀ (i j : Nat) (d e : D) (v : V), σD[i]? = some (some (d, true)) → σD[j]? = some (some (e, true)) → σ[i]? = some (some v) → σ[j]? = some (some v) → i = j
  len : σ.length = σD.length
end
structure Ext (F H F' H' : Hp) : Prop where
  f : Sub F F'
  h : Sub F' H'
  s : Sub H H'
  n : ∀ a o, F' a = some o → F a = some o ∨ H a = none
theorem Ext.refl {F H : Hp} (h : Sub F H) : Ext F H F H := ⟨Sub.refl F, h, Sub.refl H, fun _ _ q => .inl q⟩
theorem none_back {H H' : Hp} (s : Sub H H') {a : Addr} (h : H' a = none) : H a = none := by
  cases q : H a with
  | none => rfl
  | some o => rw [s _ _ q] at h; cases h
theorem Ext.trans {F H F1 H1 F2 H2 : Hp} (a : Ext F H F1 H1) (b : Ext F1 H1 F2 H2) : Ext F H F2 H2 :=
  ⟨a.f.trans b.f, b.h, a.s.trans b.s, fun x o q => by
    rcases b.n x o q with z | z
    · exact a.n x o z
    · exact .inr (none_back a.s z)⟩
section
variable {K : PySem.W.Frag} {σD : SD} {σ : List (Option V)} {F H F' H' F1 H1 : Hp} {d : D} {k : Kd} {v : V} {a : Addr}
theorem Cell.there (c : Cell K F H d a) : ∃ o, H a = some o := by
  cases d <;> simp only [Cell] at c
  · obtain ⟨vs, q, _⟩ := c; exact ⟨_, q⟩
  · obtain ⟨vs, q, _⟩ := c; exact ⟨_, q⟩
theorem Cell.mono (s : Sub F F') (t : ∀ o, H a = some o → H' a = some o) (c : Cell K F H d a) : Cell K F' H' d a := by
  cases d <;> simp only [Cell] at c ⊢
  · obtain ⟨vs, q, r⟩ := c; exact ⟨vs, t _ q, Reps.mono s _ _ r⟩
  · obtain ⟨vs, q, r⟩ := c; exact ⟨vs, t _ q, RepKs.mono s _ _ r⟩
theorem Ext.fresh (e : Ext F H F' H') (h : F a = none) (t : ∃ o, H a = some o) : F' a = none := by
  cases q : F' a with
  | none => rfl
  | some o =>
    rcases e.n a o q with z | z
    · rw [h] at z; cases z
    · obtain ⟨o', z'⟩ := t; rw [z] at z'; cases z'
theorem SL.ext (s : SL K σD σ F H) (e : Ext F H F' H') : SL K σD σ F' H' where
  sub := e.h
  fz := fun i d h => let ⟨v, h1, h2⟩ := s.fz i d h; ⟨v, h1, Rep.mono e.f _ _ h2⟩
  ow := fun i d h => let ⟨a, h1, h2, h3⟩ := s.ow i d h; ⟨a, h1, e.fresh h2 h3.there, h3.mono e.f fun o q => e.s _ _ q⟩
  dis := s.dis
  len := s.len
/-- the value of an expression, at its end -/
def VR (K : PySem.W.Frag) (σD : SD) (σ : List (Option V)) (F H0 H : Hp) (d : D) : Kd → V → Prop
  | .fz, v => Rep K F d v
  | .fr, v => ∃ a, v = .ref a ∧ F a = none ∧ H0 a = none ∧ Cell K F H d a
  | .bo, v => ∃ i : Nat, σD[i]? = some (some (d, true)) ∧ σ[i]? = some (some v)
/-- .. as an operand, later -/
def VF (K : PySem.W.Frag) (σD : SD) (σ : List (Option V)) (F : Hp) (d : D) : Kd → V → Prop
  | .bo, v => ∃ i : Nat, σD[i]? = some (some (d, true)) ∧ σ[i]? = some (some v)
  | _, v => Rep K F d v
theorem VF.ext (e : Sub F F') (h : VF K σD σ F d k v) : VF K σD σ F' d k v := by
  cases k with
  | bo => exact h
  | fz => exact Rep.mono e _ _ h
  | fr => exact Rep.mono e _ _ h
theorem cell_rep (h : Cell K F H d a) (f : F a = none) : ∃ o, H a = some o ∧ Rep K (upd F a o) d (.ref a) := by
  have s : ∀ o, Sub F (upd F a o) := fun o b u q => by rw [upd_ne (ne_of_none q f)]; exact q
  cases d <;> simp only [Cell] at h
  · obtain ⟨vs, q, r⟩ := h
    exact ⟨_, q, by simp only [Rep]; exact ⟨a, vs, rfl, upd_same, Reps.mono (s _) _ _ r⟩⟩
  · obtain ⟨vs, q, r⟩ := h
    exact ⟨_, q, by simp only [Rep]; exact ⟨a, vs, rfl, .inl upd_same, RepKs.mono (s _) _ _ r⟩⟩
/-- a new object is frozen -/
theorem VR.frozen (e : Ext F H F1 H1) (h : VR K σD σ F1 H H1 d k v) : ∃ F2, Ext F H F2 H1 ∧ Sub F1 F2 ∧ VF K σD σ F2 d k v := by
  cases k with
  | fz => exact ⟨F1, e, Sub.refl _, h⟩
  | bo => exact ⟨F1, e, Sub.refl _, h⟩
  | fr =>
    obtain ⟨a, rfl, f, h0, c⟩ := h
    obtain ⟨o, ho, r⟩ := cell_rep c f
    have s : Sub F1 (upd F1 a o) := fun b u q => by rw [upd_ne (ne_of_none q f)]; exact q
    refine ⟨upd F1 a o, ⟨e.f.trans s, fun b u q => ?_, e.s, fun b u q => ?_⟩, s, r⟩
    · by_cases hb : b = a
      · subst hb; rw [upd_same] at q; cases q; exact ho
      · rw [upd_ne hb] at q; exact e.h _ _ q
    · by_cases hb : b = a
      · subst hb; exact .inr h0
      · rw [upd_ne hb] at q; exact e.n _ _ q
/-- what can be read now -/
def Seen (K : PySem.W.Frag) (F H : Hp) : D → V → Prop
  | .lst ds, v => ∃ a vs, v = .ref a ∧ H a = some (.lst vs) ∧ Reps K F ds vs
  | .dic ks, v => ∃ a vs, v = .ref a ∧ Rd H a (.dK vs) ∧ RepKs K F ks vs
  | d, v => Rep K F d v
theorem Seen.of (s : Sub F H) (h : Rep K F d v) : Seen K F H d v := by
  cases d <;> simp only [Rep, Seen] at h ⊢ <;> try exact h
  · obtain ⟨a, vs, e, q, r⟩ := h; exact ⟨a, vs, e, s _ _ q, r⟩
  · obtain ⟨a, vs, e, q, r⟩ := h; exact ⟨a, vs, e, s.rd q, r⟩
theorem VF.seen (s : SL K σD σ F H) (h : VF K σD σ F d k v) : Seen K F H d v := by
  cases k with
  | fz => exact Seen.of s.sub h
  | fr => exact Seen.of s.sub h
  | bo =>
    obtain ⟨i, h1, h2⟩ := h
    obtain ⟨a, h3, h4, h5⟩ := s.ow i d h1
    rw [h2] at h3; cases h3
    cases d <;> simp only [Cell] at h5
    · obtain ⟨vs, q, r⟩ := h5; exact ⟨a, vs, rfl, q, r⟩
    · obtain ⟨vs, q, r⟩ := h5; exact ⟨a, vs, rfl, .inl q, r⟩
end
/-! ### exceptions -/
section
variable (K : PySem.W.Frag) (mg : Str → Option Value)
def ErrR (F H : Hp) : Exn → Value → Option Addr → Prop
  | .own c, cls, dd => mg c = some cls ∧ dd = none
  | .own2 c a b, cls, dd => mg c = some cls ∧ ∃ ad va vb, dd = some ad ∧ H ad = some (.xd [(("times" : Str), va), (("by" : Str), vb)]) ∧ Rep K F a va ∧ Rep K F b vb
/-- what is wanted of a result -/
def PostR {α : Type} (W : WX) (σ : List (Option V)) (F H : Hp) (r : R α) (P : α → Prop) : Prop := match r with
  | .ok a => P a
  | .err x => ∀ F' H' cls dd, Ext F H F' H' → ErrR K mg F' H' x cls dd → W cls dd σ H'
  | .stuck => False
/-- what an expression's value must meet -/
def PE' (σD : SD) (σ : List (Option V)) (F H : Hp) (Q : VK) : DK → Prop := fun p => ∀ F' H' v, Ext F H F' H' → VR K σD σ F' H H' p.1 p.2 v → Q v H'
end
theorem PostR.grd {K : PySem.W.Frag} {mg : Str → Option Value} {α : Type} {W : WX} {σ : List (Option V)} {F H : Hp} {p : Prop} {r : R α} {P : α → Prop} (h : PostR K mg W σ F H (grd p r) P) : p ∧ PostR K mg W σ F H r P := by
  by_cases hp : p
  · rw [grd_pos hp] at h; exact ⟨hp, h⟩
  · rw [grd_neg hp] at h; exact h.elim
end MP

namespace MP
open PySem PySem.Spec PyProof.Rows L2
/-! ### the small tree -/
inductive BO where | add | sub | mul | fdiv | mod | pow
inductive CO where | eq | ne | lt | le | gt | ge | isN | notN | inn | notin | eqk | nek
inductive BI where | len | abs | min2 | max2 | sum | any | all | sorted | list | tuple | dict | str | int
inductive Tg where | nm (i : Nat) | tp (is : List Nat)
mutual
inductive E where
  | var (i : Nat) | int (i : Int) | str (s : Str) | bl (b : Bool) | non
  | bin (o : BO) (a b : E) | neg (a : E)
  | cmp (o : CO) (a b : E) | chain (o p : CO) (a b c : E)
  | and (a b : E) | or (a b : E) | not (a : E)
  | call (f : Str) (m : M) (as : Es)
  | bi (f : BI) (as : Es)
  | isi (a : E) (c : Str)
  | ix (a b : E) | slf (a lo : E) | slt (a hi : E)
  | tup (as : Es) | lst (as : Es) | dic0
  | getd (a k d : E)
  | sset (a : E)
  | lc (elt : E) (tg : Tg) (own : List (Str × Nat)) (it : It) (c : Eo)
inductive Es where
  | nil | cons (e : E) (es : Es)
inductive Eo where
  | no | yes (e : E)
inductive It where
  | seq (e : E) | rng1 (e : E) | rng2 (a b : E)
end
/-! ### what the operations give -/
def strRep (s : Str) (n : Nat) : Str := ⟨((List.replicate n s.cps.toList).flatten).toArray⟩
noncomputable def binD : BO → D → D → R DK
  | .add, .int i, .int j => .ok (.int (i + j), .fz)
  | .add, .str s, .str t => grd (s.length + t.length ≤ 1000000) (.ok (.str (s ++ t), .fz))
  | .add, .lst a, .lst b => grd (a.length + b.length ≤ 1000000) (.ok (.lst (a ++ b), .fr))
  | .add, .tup a, .tup b => grd (a.length + b.length ≤ 1000000) (.ok (.tup (a ++ b), .fz))
  | .sub, .int i, .int j => .ok (.int (i - j), .fz)
  | .mul, .int i, .int j => grd (CMulX i j) (.ok (.int (i * j), .fz))
  | .mul, .str s, .int n => grd (0 ≤ n ∧ n ≤ 1000 ∧ s.length ≤ 1000) (.ok (.str (strRep s n.toNat), .fz))
  | .mul, .lst a, .int n => grd (0 ≤ n ∧ n ≤ 1000 ∧ a.length ≤ 1000) (.ok (.lst (List.replicate n.toNat a).flatten, .fr))
  | .fdiv, .int i, .int j => grd (j ≠ 0 ∧ j.natAbs.log2 < 9000) (.ok (.int (i.fdiv j), .fz))
  | .mod, .int i, .int j => grd (j ≠ 0) (.ok (.int (i.fmod j), .fz))
  | .pow, .int i, .int j => grd (CPow i j) (.ok (.int (i ^ j.toNat), .fz))
  | _, _, _ => .stuck
def negD : D → R DK
  | .int i => .ok (.int (-i), .fz)
  | _ => .stuck
mutual
def toPy : D → PyData
  | .non => .none
  | .bl b => .bool b
  | .int i => .int i
  | .str s => .str s
  | .tup ds => .tuple (toPys ds)
  | .lst ds => .list (toPys ds)
  | .dic _ => .dict []
  | .scr _ => .dict []
def toPys : List D → List PyData
  | [] => []
  | d :: ds => toPy d :: toPys ds
end
/-- plain data, not too deep, of proper texts -/
def okD (d : D) : Prop := SeqAt.shaped (toPy d) = true
def eqD (d e : D) : Bool := PyData.eqv (toPy d) (toPy e)
def isNon : D → Bool
  | .non => true
  | _ => false
def strLt (a b : Str) : Bool := decide (a.cps.toList < b.cps.toList)
def rOpt {α β : Type} (o : Option α) (f : α → R β) : R β := match o with
  | some a => f a
  | none => .stuck
def oneSign (s : Str) : Option Nat := match s.cps.toList with
  | [c] => some c
  | _ => none
/-- d in e -/
noncomputable def inD (d : D) : D → R Bool
  | .dic ks => match d with
    | .str k => .ok (dget ks k).isSome
    | _ => .stuck
  | .str z => match d with
    | .str k => rOpt (oneSign k) fun c => .ok (decide (c ∈ z.cps.toList))
    | _ => .stuck
  | .lst ds => grd (okD d ∧ okD (.lst ds)) (.ok (ds.any fun z => eqD z d))
  | .tup ds => grd (okD d ∧ okD (.tup ds)) (.ok (ds.any fun z => eqD z d))
  | _ => .stuck
/-- two dicts of the same keys, with equal plain data -/
def sameK (ks ls : List (Str × D)) : Prop := ks.length = ls.length ∧ ∀ p ∈ ks, ∃ u, dget ls p.1 = some u ∧ okD p.2 ∧ okD u ∧ eqD p.2 u = true
noncomputable def cmpD : CO → D → D → R DK
  | .eq, d, e => grd (okD d ∧ okD e) (.ok (.bl (eqD d e), .fz))
  | .ne, d, e => grd (okD d ∧ okD e) (.ok (.bl (!eqD d e), .fz))
  | .lt, .int i, .int j => .ok (.bl (decide (i < j)), .fz)
  | .le, .int i, .int j => .ok (.bl (decide (i ≤ j)), .fz)
  | .gt, .int i, .int j => .ok (.bl (decide (j < i)), .fz)
  | .ge, .int i, .int j => .ok (.bl (decide (j ≤ i)), .fz)
  | .le, .str i, .str j => .ok (.bl (!strLt j i), .fz)
  | .isN, d, .non => .ok (.bl (isNon d), .fz)
  | .notN, d, .non => .ok (.bl (!isNon d), .fz)
  | .inn, d, e => (inD d e).bind fun b => .ok (.bl b, .fz)
  | .notin, d, e => (inD d e).bind fun b => .ok (.bl (!b), .fz)
  | .eqk, .dic ks, .dic ls => grd (sameK ks ls) (.ok (.bl true, .fz))
  | .nek, .dic ks, .dic ls => grd (sameK ks ls) (.ok (.bl false, .fz))
  | _, _, _ => .stuck
/-- a thing's type, by name -/
def tyD : D → String
  | .non => "NoneType"
  | .bl _ => "bool"
  | .int _ => "int"
  | .str _ => "str"
  | .tup _ => "tuple"
  | .lst _ => "list"
  | .dic _ => "dict"
  | .scr _ => "list"
def isiD (d : D) (c : Str) : R DK :=
  if c = ("int" : Str) then .ok (.bl (tyD d == "int" || tyD d == "bool"), .fz)
  else if c = ("bool" : Str) then .ok (.bl (tyD d == "bool"), .fz)
  else if c = ("str" : Str) then .ok (.bl (tyD d == "str"), .fz)
  else if c = ("tuple" : Str) then .ok (.bl (tyD d == "tuple"), .fz)
  else if c = ("list" : Str) then .ok (.bl (tyD d == "list"), .fz)
  else if c = ("dict" : Str) then .ok (.bl (tyD d == "dict"), .fz)
  else .stuck
def optOk (o : Option D) : R DK := match o with
  | some d => .ok (d, .fz)
  | none => .stuck
noncomputable def ixD : D → D → R DK
  | .lst ds, .int i => optOk (atI ds i)
  | .tup ds, .int i => optOk (atI ds i)
  | .scr ns, .int i => optOk ((atI ns i).map D.int)
  | .str s, .int i => grd (s.length ≤ 1000000) (optOk ((atI s.cps.toList i).map fun c => D.str ⟨#[c]⟩))
  | .dic ks, .str k => optOk (dget ks k)
  | _, _ => .stuck
def cutL {α : Type} (xs : List α) (lo hi : Option Int) : List α := (xs.drop (HT.sIx xs.length 0 lo)).take (HT.sIx xs.length xs.length hi - HT.sIx xs.length 0 lo)
noncomputable def slD : D → Option Int → Option Int → R DK
  | .lst ds, lo, hi => .ok (.lst (cutL ds lo hi), .fr)
  | .tup ds, lo, hi => .ok (.tup (cutL ds lo hi), .fz)
  | .str s, lo, hi => grd (s.length ≤ 1000000) (.ok (.str (cutS s lo hi), .fz))
  | _, _, _ => .stuck
def asInt : D → Option Int
  | .int i => some i
  | _ => none
def asBl : D → Option Bool
  | .bl i => some i
  | _ => none
def asStr : D → Option Str
  | .str i => some i
  | _ => none
def asDic : D → Option (List (Str × D))
  | .dic ks => some ks
  | _ => none
def asPair : D → Option (Str × D)
  | .tup [.str k, d] => some (k, d)
  | _ => none
/-- the texts in order -/
def insS (x : Str) : List Str → List Str
  | [] => [x]
  | y :: ys => if strLt y x then y :: insS x ys else x :: y :: ys
def sortS : List Str → List Str
  | [] => []
  | x :: xs => insS x (sortS xs)
/-- the texts of a list, each once -/
def setS (xs : List Str) : List Str := xs.foldl (fun acc x => if x ∈ acc then acc else x :: acc) []
/-- dict(pairs): a key that comes again takes the last value -/
def dicOf (ps : List (Str × D)) : List (Str × D) := ps.foldl (fun acc p => dput acc p.1 p.2) []
noncomputable def biD : BI → List D → R DK
  | .len, [.lst ds] => .ok (.int ds.length, .fz)
  | .len, [.tup ds] => .ok (.int ds.length, .fz)
  | .len, [.scr ds] => .ok (.int ds.length, .fz)
  | .len, [.dic ds] => .ok (.int ds.length, .fz)
  | .len, [.str s] => grd (s.length ≤ 1000000) (.ok (.int s.length, .fz))
  | .abs, [.int i] => .ok (.int (if i < 0 then -i else i), .fz)
  | .max2, [.int i, .int j] => .ok (.int (if j > i then j else i), .fz)
  | .min2, [.int i, .int j] => .ok (.int (if j < i then j else i), .fz)
  | .sum, [.lst ds] => rOpt (ds.mapM asInt) fun ns => .ok (.int ns.sum, .fz)
  | .any, [.lst ds] => rOpt (ds.mapM asBl) fun ns => .ok (.bl (ns.any id), .fz)
  | .all, [.lst ds] => rOpt (ds.mapM asBl) fun ns => .ok (.bl (ns.all id), .fz)
  | .sorted, [.dic ks] => .ok (.lst ((sortS (ks.map (·.1))).map D.str), .fr)
  | .sorted, [.lst ds] => rOpt (ds.mapM asStr) fun ns => .ok (.lst ((sortS ns).map D.str), .fr)
  | .list, [.lst ds] => .ok (.lst ds, .fr)
  | .list, [.tup ds] => .ok (.lst ds, .fr)
  | .list, [.dic ks] => .ok (.lst (ks.map fun p => D.str p.1), .fr)
  | .tuple, [.lst ds] => .ok (.tup ds, .fz)
  | .tuple, [.tup ds] => .ok (.tup ds, .fz)
  | .dict, [.dic ks] => .ok (.dic ks, .fr)
  | .dict, [.tup ds] => rOpt (ds.mapM asPair) fun ps => grd (ps.length ≤ 1000000) (.ok (.dic (dicOf ps), .fr))
  | .str, [.int i] => grd (i.natAbs.log2 < 1920) (.ok (.str (toString i), .fz))
  | .int, [.int i] => .ok (.int i, .fz)
  | .int, [.bl b] => .ok (.int (if b then 1 else 0), .fz)
  | _, _ => .stuck
/-! ### data that a borrowed object can't hide in -/
mutual
def immut : D → Bool
  | .tup ds => immuts ds
  | .lst _ => false
  | .dic _ => false
  | .scr _ => false
  | _ => true
def immuts : List D → Bool
  | [] => true
  | d :: ds => immut d && immuts ds
end
def isBo : Kd → Bool
  | .bo => true
  | _ => false
def callD (m : M) (ps : List DK) : R DK :=
  match m (ps.map (·.1)) with
  | .ok (d, .bo) => .stuck
  | .ok (d, .fz) => if ps.any (fun p => isBo p.2) && !immut d then .stuck else .ok (d, .fz)
  | .ok (d, .fr) => if ps.any (fun p => isBo p.2) then .stuck else .ok (d, .fr)
  | .err (.own c) => .err (.own c)
  | .err x => if ps.any (fun p => isBo p.2) then .stuck else .err x
  | .stuck => .stuck
/-! ### targets -/
def bindSlots (σ : SD) : List Nat → List D → R SD
  | [], [] => .ok σ
  | i :: is, d :: ds => bindSlots (σ.set i (some (d, false))) is ds
  | _, _ => .stuck
def bindTg (tg : Tg) (σ : SD) (d : D) : R SD := match tg, d with
  | .nm i, d => .ok (σ.set i (some (d, false)))
  | .tp is, .tup ds => bindSlots σ is ds
  | _, _ => .stuck
def wipeD (σ : SD) : List Nat → SD
  | [] => σ
  | v :: vs => (wipeD σ vs).set v none
/-- the items that a loop walks -/
def rangeD (lo : Int) : Nat → List D
  | 0 => []
  | n + 1 => D.int lo :: rangeD (lo + 1) n
noncomputable def itemsD : D → R (List D)
  | .lst ds => .ok ds
  | .tup ds => .ok ds
  | .str s => .ok (s.cps.toList.map fun c => D.str ⟨#[c]⟩)
  | _ => .stuck
def small62 (i : Int) : Prop := -(2 ^ 62) ≤ i ∧ i < 2 ^ 62
noncomputable def rng1D : D → R (List D)
  | .int j => grd (small62 j) (.ok (rangeD 0 j.toNat))
  | _ => .stuck
noncomputable def rng2D : D → D → R (List D)
  | .int i, .int j => grd (small62 i ∧ small62 j) (.ok (rangeD i (j - i).toNat))
  | _, _ => .stuck
def optCons (o : Option D) (r : List D) : List D := match o with
  | some d => d :: r
  | none => r
def evItems (step : D → R (Option D)) : List D → R (List D)
  | [] => .ok []
  | x :: xs => (step x).bind fun o => (evItems step xs).bind fun r => .ok (optCons o r)
def notBo (p : DK) : R D := match p.2 with
  | .bo => .stuck
  | _ => .ok p.1
def notBos : List DK → R (List D)
  | [] => .ok []
  | p :: ps => (notBo p).bind fun d => (notBos ps).bind fun ds => .ok (d :: ds)
def noErr {α : Type} (r : R α) : R α := match r with
  | .err _ => .stuck
  | r => r
def asTest (p : DK) : R Bool := match p.1 with
  | .bl b => .ok b
  | _ => .stuck
/-- sorted(set(list of texts)) -/
noncomputable def ssetD : D → R DK
  | .lst ds => rOpt (ds.mapM asStr) fun ns => grd (ns.length ≤ 4000) (.ok (.lst ((sortS (setS ns)).map D.str), .fr))
  | _ => .stuck
/-! ### evaluation -/
mutual
noncomputable def ev : E → SD → R DK
  | .var i, σ => match σ[i]? with
    | some (some (d, false)) => .ok (d, .fz)
    | some (some (d, true)) => .ok (d, .bo)
    | _ => .stuck
  | .int i, _ => .ok (.int i, .fz)
  | .str s, _ => .ok (.str s, .fz)
  | .bl b, _ => .ok (.bl b, .fz)
  | .non, _ => .ok (.non, .fz)
  | .bin o a b, σ => (ev a σ).bind fun p => (ev b σ).bind fun q => binD o p.1 q.1
  | .neg a, σ => (ev a σ).bind fun p => negD p.1
  | .cmp o a b, σ => (ev a σ).bind fun p => (ev b σ).bind fun q => cmpD o p.1 q.1
  | .chain o o' a b c, σ => (ev a σ).bind fun p => (ev b σ).bind fun q => (cmpD o p.1 q.1).bind fun t => (asTest t).bind fun k =>
      if k then (ev c σ).bind fun r => cmpD o' q.1 r.1 else .ok (.bl false, .fz)
  | .and a b, σ => (ev a σ).bind fun p => (asTest p).bind fun k => if k then (ev b σ).bind fun q => (asTest q).bind fun l => .ok (.bl l, .fz) else .ok (.bl false, .fz)
  | .or a b, σ => (ev a σ).bind fun p => (asTest p).bind fun k => if k then .ok (.bl true, .fz) else (ev b σ).bind fun q => (asTest q).bind fun l => .ok (.bl l, .fz)
  | .not a, σ => (ev a σ).bind fun p => (asTest p).bind fun k => .ok (.bl (!k), .fz)
  | .call f m as, σ => (evs as σ).bind fun ps => callD m ps
  | .bi f as, σ => (evs as σ).bind fun ps => biD f (ps.map (·.1))
  | .isi a c, σ => (ev a σ).bind fun p => isiD p.1 c
  | .ix a b, σ => (ev a σ).bind fun p => (ev b σ).bind fun q => ixD p.1 q.1
  | .slf a b, σ => (ev a σ).bind fun p => (ev b σ).bind fun q => match q.1 with | .int i => slD p.1 (some i) none | _ => .stuck
  | .slt a b, σ => (ev a σ).bind fun p => (ev b σ).bind fun q => match q.1 with | .int i => slD p.1 none (some i) | _ => .stuck
  | .tup as, σ => (evs as σ).bind fun ps => (notBos ps).bind fun ds => grd (ds.length ≤ 1000000) (.ok (.tup ds, .fz))
  | .lst as, σ => (evs as σ).bind fun ps => (notBos ps).bind fun ds => grd (ds.length ≤ 1000000) (.ok (.lst ds, .fr))
  | .dic0, _ => .ok (.dic [], .fr)
  | .getd a k d, σ => (ev a σ).bind fun p => rOpt (asDic p.1) fun ks => (ev k σ).bind fun q => (ev d σ).bind fun r => (notBo r).bind fun z => rOpt (asStr q.1) fun s =>
      .ok ((dget ks s).getD z, .fz)
  | .sset a, σ => (ev a σ).bind fun p => ssetD p.1
  | .lc elt tg own it c, σ => (evIt it σ).bind fun xs => grd (xs.length ≤ 1000000) ((noErr (evItems (fun x => (bindTg tg (wipeD σ (own.map (·.2))) x).bind fun σ2 =>
      (evo c σ2).bind fun k => if k then (ev elt σ2).bind fun p => (notBo p).bind fun d => .ok (some d) else .ok none) xs)).bind fun ds => .ok (.lst ds, .fr))
noncomputable def evs : Es → SD → R (List DK)
  | .nil, _ => .ok []
  | .cons e es, σ => (ev e σ).bind fun p => (evs es σ).bind fun ps => .ok (p :: ps)
noncomputable def evo : Eo → SD → R Bool
  | .no, _ => .ok true
  | .yes e, σ => (ev e σ).bind fun p => asTest p
noncomputable def evIt : It → SD → R (List D)
  | .seq e, σ => (ev e σ).bind fun p => (notBo p).bind fun d => itemsD d
  | .rng1 e, σ => (ev e σ).bind fun p => rng1D p.1
  | .rng2 a b, σ => (ev a σ).bind fun p => (ev b σ).bind fun q => rng2D p.1 q.1
end
end MP

namespace MP
open PySem PySem.Spec PyProof.Rows L2
/-! ### the tree against the text -/
structure SC where
  N : List Str
  sc : Scope
  top : Bool
def okX : Expr → Bool
  | .Starred _ _ => false
  | .Slice _ _ _ _ => false
  | .Call (.Name _ _) [] [] _ => false
  | _ => true
def isLC : Expr → Bool
  | .ListComp _ _ _ _ => true
  | .SetComp _ _ _ _ => true
  | .DictComp _ _ _ _ _ => true
  | _ => false
def plainT : Expr → Bool
  | .UnaryOp .Not _ _ => false
  | .BoolOp _ _ _ => false
  | .IfExp _ _ _ _ => false
  | .Compare _ _ _ _ => false
  | _ => true
def visB (sc : Scope) (x : Str) : Bool := match sc.names.lookup x with
  | some .local => true
  | some .cell => true
  | some .free => true
  | _ => false
def gloB (sc : Scope) (x : Str) : Bool := match sc.names.lookup x with
  | some .globalImplicit => true
  | _ => false
def locB (C : SC) (x : Str) : Bool := match C.sc.names.lookup x with
  | some .local => true
  | some .cell => C.top
  | _ => false
def okN (x : Str) : Bool := (x == ("__debug__" : Str)) == false && (x == ("__classdict__" : Str)) == false && decide (x ≠ ("__name__" : Str))
def BO.is : BO → Operator → Bool
  | .add, .Add => true
  | .sub, .Sub => true
  | .mul, .Mult => true
  | .fdiv, .FloorDiv => true
  | .mod, .Mod => true
  | .pow, .Pow => true
  | _, _ => false
def CO.is : CO → CmpOp → Bool
  | .eq, .Eq => true
  | .ne, .NotEq => true
  | .lt, .Lt => true
  | .le, .LtE => true
  | .gt, .Gt => true
  | .ge, .GtE => true
  | .isN, .Is => true
  | .notN, .IsNot => true
  | .inn, .In => true
  | .notin, .NotIn => true
  | .eqk, .Eq => true
  | .nek, .NotEq => true
  | _, _ => false
def BI.name : BI → Str
  | .len => "len" | .abs => "abs" | .min2 => "min" | .max2 => "max" | .sum => "sum" | .any => "any" | .all => "all"
  | .sorted => "sorted" | .list => "list" | .tuple => "tuple" | .dict => "dict" | .str => "str" | .int => "int"
def isTyName (c : Str) : Bool := [("int" : Str), "bool", "str", "tuple", "list", "dict"].contains c
def chkTgs (C : SC) : List Nat → List Expr → Bool
  | [], [] => true
  | i :: is, .Name x _ :: es => decide (C.N[i]? = some x) && locB C x && chkTgs C is es
  | _, _ => false
def chkTg (C : SC) : Tg → Expr → Bool
  | .nm i, .Name x _ => decide (C.N[i]? = some x) && locB C x
  | .tp is, .Tuple es _ _ => chkTgs C is es && decide (is.length = es.length)
  | _, _ => false
def Tg.slots : Tg → List Nat
  | .nm i => [i]
  | .tp is => is
def tgIn (tg : Tg) (own : List (Str × Nat)) : Bool := tg.slots.all fun i => (own.map (·.2)).contains i
def notDS : Expr → Bool
  | .Set _ _ _ => false
  | _ => true
mutual
/-- t: as a test -/
def chk (C : SC) (t : Bool) : E → Expr → Bool
  | .var i, .Name x _ => decide (C.N[i]? = some x) && visB C.sc x && okN x
  | .int i, .Constant (.int j) _ _ => !t && decide (i = j)
  | .str i, .Constant (.str j) _ _ => !t && decide (i = j)
  | .bl i, .Constant (.bool j) _ _ => !t && decide (i = j)
  | .non, .Constant .none _ _ => !t
  | .bin o a b, .BinOp x op y _ => !t && o.is op && chk C false a x && chk C false b y
  | .neg a, .UnaryOp .USub x _ => !t && chk C false a x
  | .cmp o a b, .Compare x [op] [y] _ => o.is op && chk C false a x && chk C false b y && notDS y
  | .chain o o' a b c, .Compare x [op, op'] [y, z] _ => o.is op && o'.is op' && chk C false a x && chk C false b y && chk C false c z && notDS y && notDS z
  | .and a b, .BoolOp .And (x :: y :: rest) pos => chk C t a x && (match rest with | [] => chk C t b y | _ :: _ => chk C t b (.BoolOp .And (y :: rest) pos))
  | .or a b, .BoolOp .Or (x :: y :: rest) pos => chk C t a x && (match rest with | [] => chk C t b y | _ :: _ => chk C t b (.BoolOp .Or (y :: rest) pos))
  | .not a, .UnaryOp .Not x _ => chk C t a x
  | .call f _ (.cons a as), .Call (.Name g _) (x :: xs) [] _ => decide (f = g) && gloB C.sc f && okN f && okX x && chk C false a x && chks C as xs
  | .bi f (.cons a as), .Call (.Name g _) (x :: xs) [] _ => decide (f.name = g) && gloB C.sc g && okX x && chk C false a x && chks C as xs
  | .isi a c, .Call (.Name g _) [x, .Name d _] [] _ => decide (g = ("isinstance" : Str)) && gloB C.sc g && gloB C.sc c && decide (d = c) && isTyName c && okX x && chk C false a x
  | .ix a b, .Subscript x y _ => okX y && chk C false a x && chk C false b y
  | .slf a b, .Subscript x (.Slice (some y) none none _) _ => !t && chk C false a x && chk C false b y
  | .slt a b, .Subscript x (.Slice none (some y) none _) _ => !t && chk C false a x && chk C false b y
  | .tup as, .Tuple es _ _ => !t && chks C as es
  | .lst as, .List es _ => !t && chks C as es
  | .dic0, .Dict [] [] _ => !t
  | .getd a k d, .Call (.Attribute x g apos) [y, z] [] cpos => decide (g = ("get" : Str)) && okX x && okX y && okX z && apos.endLine == cpos.line && chk C false a x && chk C false k y && chk C false d z
  | .sset a, .Call (.Name g _) [.Call (.Name g2 _) [x] [] _] [] _ => decide (g = ("sorted" : Str)) && decide (g2 = ("set" : Str)) && gloB C.sc g && gloB C.sc g2 && okX x && chk C false a x
  | .lc elt tg own it c, .ListComp x [⟨u, i, ifs, isa⟩] scope _ => !t && decide (isa = 0) && blkC C.N C.sc scope own && chkIt C it i && notDS i &&
      chkTg ⟨C.N, relS scope C.sc, false⟩ tg u && tgIn tg own && chkO ⟨C.N, relS scope C.sc, false⟩ c ifs && chk ⟨C.N, relS scope C.sc, false⟩ false elt x
  | _, _ => false
def chks (C : SC) : Es → List Expr → Bool
  | .nil, [] => true
  | .cons e es, x :: xs => okX x && chk C false e x && chks C es xs
  | _, _ => false
def chkO (C : SC) : Eo → List Expr → Bool
  | .no, [] => true
  | .yes e, [x] => chk C true e x
  | _, _ => false
def chkIt (C : SC) : It → Expr → Bool
  | .seq e, x => chk C false e x
  | .rng1 e, .Call (.Name g _) [x] [] _ => decide (g = ("range" : Str)) && gloB C.sc g && okX x && chk C false e x
  | .rng2 a b, .Call (.Name g _) [x, y] [] _ => decide (g = ("range" : Str)) && gloB C.sc g && okX x && okX y && chk C false a x && chk C false b y
  | _, _ => false
end
end MP

namespace MP
open PySem PySem.Spec PyProof.Rows L2
/-! ### what an expression's tree means as a reading -/
section
variable (K : PySem.W.Frag) (mg : Str → Option Value) (W : WX)
def den (e : E) : TE := fun σ H Q => ∃ σD F, SL K σD σ F H ∧ PostR K mg W σ F H (ev e σD) (PE' K σD σ F H Q)
def VFs (σD : SD) (σ : List (Option V)) (F : Hp) : List DK → List V → Prop
  | [], vs => vs = []
  | p :: ps, vs => ∃ v r, vs = v :: r ∧ VF K σD σ F p.1 p.2 v ∧ VFs σD σ F ps r
def dens (es : Es) : TA := fun σ H Q => ∃ σD F, SL K σD σ F H ∧ PostR K mg W σ F H (evs es σD) fun ps => ∀ F' H' vs, Ext F H F' H' → VFs K σD σ F' ps vs → Q vs H'
def denT (e : E) : TT := fun σ H Q => ∃ σD F, SL K σD σ F H ∧ PostR K mg W σ F H ((ev e σD).bind asTest) fun k => ∀ F' H', Ext F H F' H' → Q k H'
end
theorem _root_.L2.PE.imp {X : Cx} {e : Expr} {t t' : TE} (h : PE X e t) (w : ∀ σ H Q, t' σ H Q → t σ H Q) : PE X e t' := ⟨fun pins s σ H Q I q => h.run pins s σ H Q I (w σ H Q q)⟩
theorem _root_.L2.PT.imp {X : Cx} {e : Expr} {t t' : TT} (h : PT X e t) (w : ∀ σ H Q, t' σ H Q → t σ H Q) : PT X e t' := ⟨fun pins s σ H Q I q => h.run pins s σ H Q I (w σ H Q q)⟩
theorem _root_.L2.PE.or {X : Cx} {e : Expr} {t t' : TE} (h : PE X e t) (h' : PE X e t') : PE X e (fun σ H Q => t σ H Q ∨ t' σ H Q) := ⟨fun pins s σ H Q I q => q.elim (h.run pins s σ H Q I) (h'.run pins s σ H Q I)⟩
section
variable {K : PySem.W.Frag} {mg : Str → Option Value} {W : WX} {σD : SD} {σ : List (Option V)} {F0 H0 F H F1 H1 : Hp} {Q : VK} {α β : Type} {P : β → Prop}
theorem PostR.bind_ok {r : R α} {f : α → R β} (h : PostR K mg W σ F0 H0 (r.bind f) P) {P' : α → Prop} (go : ∀ a, r = .ok a → PostR K mg W σ F0 H0 (f a) P → P' a) (x : Ext F0 H0 F H) : PostR K mg W σ F H r P' := by
  cases r with
  | ok a => exact go a rfl h
  | err y => exact fun F' H' cls dd e r => h F' H' cls dd (x.trans e) r
  | stuck => exact h.elim
theorem den_in {a : E} {f : DK → R β} {Q' : VK} (x : Ext F0 H0 F H) (sl : SL K σD σ F H) (h : PostR K mg W σ F0 H0 ((ev a σD).bind f) P)
    (go : ∀ p F1 H1 v, ev a σD = .ok p → Ext F H F1 H1 → Ext F0 H0 F1 H1 → SL K σD σ F1 H1 → VF K σD σ F1 p.1 p.2 v → PostR K mg W σ F0 H0 (f p) P → Q' v H1) : den K mg W a σ H Q' :=
  ⟨σD, F, sl, PostR.bind_ok h (fun p ep hp F' H' v e r => by
    obtain ⟨F2, e2, s, vf⟩ := r.frozen e
    exact go p F2 H' v ep e2 (x.trans e2) (sl.ext e2) vf hp) x⟩
theorem dens_in {a : Es} {f : List DK → R β} {Q' : List V → Hp → Prop} (x : Ext F0 H0 F H) (sl : SL K σD σ F H) (h : PostR K mg W σ F0 H0 ((evs a σD).bind f) P)
    (go : ∀ p F1 H1 v, evs a σD = .ok p → Ext F H F1 H1 → Ext F0 H0 F1 H1 → SL K σD σ F1 H1 → VFs K σD σ F1 p v → PostR K mg W σ F0 H0 (f p) P → Q' v H1) : dens K mg W a σ H Q' :=
  ⟨σD, F, sl, PostR.bind_ok h (fun p ep hp F' H' v e r => go p F' H' v ep e (x.trans e) (sl.ext e) r hp) x⟩
theorem denT_in {a : E} {f : Bool → R β} {Q' : Bool → Hp → Prop} (x : Ext F0 H0 F H) (sl : SL K σD σ F H) (h : PostR K mg W σ F0 H0 (((ev a σD).bind asTest).bind f) P)
    (go : ∀ p F1 H1, (ev a σD).bind asTest = .ok p → Ext F H F1 H1 → Ext F0 H0 F1 H1 → SL K σD σ F1 H1 → PostR K mg W σ F0 H0 (f p) P → Q' p H1) : denT K mg W a σ H Q' :=
  ⟨σD, F, sl, PostR.bind_ok h (fun p ep hp F' H' e => go p F' H' ep e (x.trans e) (sl.ext e) hp) x⟩
theorem R.bind_assoc {α β γ : Type} (r : R α) (f : α → R β) (g : β → R γ) : (r.bind f).bind g = r.bind fun a => (f a).bind g := by cases r <;> rfl
/-- a result that is there already -/
theorem post_fz {d : D} {v : V} (x : Ext F0 H0 F H) (h : PE' K σD σ F0 H0 Q (d, .fz)) (r : Rep K F d v) : Q v H := h F H v x r
theorem sub_upd {F H : Hp} (s : Sub F H) {p : Addr} {o : HO} (hp : H p = none) : Sub F (upd H p o) := fun a u q => by
  rw [upd_ne (ne_of_none (s _ _ q) hp)]; exact s _ _ q
theorem sub_none {F H : Hp} (s : Sub F H) {p : Addr} (hp : H p = none) : F p = none := none_back s hp
theorem post_cell {d : D} {p : Addr} {o : HO} (x : Ext F0 H0 F H) (h : PE' K σD σ F0 H0 Q (d, .fr)) (hp : H p = none) (c : Cell K F (upd H p o) d p) : Q (.ref p) (upd H p o) :=
  h F (upd H p o) (.ref p) ⟨x.f, sub_upd x.h hp, x.s.trans (sub_upd (Sub.refl H) hp), x.n⟩ ⟨p, rfl, sub_none x.h hp, none_back x.s hp, c⟩
theorem post_lst {ds : List D} {vs : List V} {p : Addr} (x : Ext F0 H0 F H) (h : PE' K σD σ F0 H0 Q (.lst ds, .fr)) (hp : H p = none) (r : Reps K F ds vs) : Q (.ref p) (upd H p (.lst vs)) :=
  post_cell x h hp ⟨vs, upd_same, r⟩
theorem post_dic {ds : List (Str × D)} {vs : List (Key × V)} {p : Addr} (x : Ext F0 H0 F H) (h : PE' K σD σ F0 H0 Q (.dic ds, .fr)) (hp : H p = none) (r : RepKs K F ds vs) : Q (.ref p) (upd H p (.dK vs)) :=
  post_cell x h hp ⟨vs, upd_same, r⟩
theorem ext_new {p : Addr} {o : HO} (x : Ext F0 H0 F H) (hp : H p = none) : Ext F0 H0 (upd F p o) (upd H p o) ∧ Sub F (upd F p o) := by
  have s : Sub F (upd F p o) := sub_upd (Sub.refl F) (sub_none x.h hp)
  refine ⟨⟨x.f.trans s, fun a u q => ?_, x.s.trans (sub_upd (Sub.refl H) hp), fun a u q => ?_⟩, s⟩
  · by_cases e : a = p
    · subst e; rw [upd_same] at q ⊢; exact q
    · rw [upd_ne e] at q ⊢; exact x.h _ _ q
  · by_cases e : a = p
    · subst e; exact .inr (none_back x.s hp)
    · rw [upd_ne e] at q; exact x.n _ _ q
theorem post_tup {ds : List D} {vs : List V} {p : Addr} {ob : Obj} (x : Ext F0 H0 F H) (h : PE' K σD σ F0 H0 Q (.tup ds, .fz)) (hp : H p = none) (hd : ob.dict = none) (r : Reps K F ds vs) : Q (.ref p) (upd H p (.frz ob (.tup vs))) := by
  obtain ⟨x', s⟩ := ext_new (o := .frz ob (.tup vs)) x hp
  exact post_fz x' h (by simp only [Rep]; exact ⟨p, vs, rfl, ⟨ob, upd_same, hd⟩, Reps.mono s _ _ r⟩)
end
/-! ### new tuples, their objects told -/
section
variable {X : Cx}
theorem new_tup {pins : List (Addr × Obj)} {σ : L2.St} {H : Hp} {s : Shared} {xs : List V} {us : List Value} (I : Inv X pins σ H s) (z : xs.length ≤ sizeLine) (r : Vals xs us) :
    Inv X pins σ (upd H s.heap.objs.size (.frz { cls := .type "tuple", data := .seq us.toArray } (.tup xs))) { s with heap := s.heap.push { cls := .type "tuple", data := .seq us.toArray }, toks := s.toks } ∧ H s.heap.objs.size = none :=
  ⟨I.laid (t' := s.toks) (fun b u e => Heap.get?_push_of_some _ e) (Nat.le_refl _) ⟨Heap.get?_push_size _ rfl, z, us, r, IsTup.new _ _⟩, I1f I⟩
  where I1f (I : Inv X pins σ H s) : H s.heap.objs.size = none := I.hok.fresh (Nat.le_refl _)
def tTupF (t : TA) : TE := fun σ H Q => t σ H fun xs H1 => xs.length ≤ sizeLine ∧ ∀ (p : Addr) (ob : Obj), H1 p = none → ob.dict = none → Q (.ref p) (upd H1 p (.frz ob (.tup xs)))
theorem pe_tupF {es : List Expr} {x1 : Nat} {pos : Pos} {t : TA} (h : PA X es t) : PE X (.Tuple es x1 pos) (tTupF t) := by
  refine ⟨fun pins s σ H Q I hq => ?_⟩
  refine wpAny_Tuple_spliced (thn (h.run pos pins s σ H _ I hq) fun us s1 hh => ?_)
  obtain ⟨xs, H1, I1, r, z, q⟩ := hh
  refine ⟨by rw [← r.length]; exact z, ?_⟩
  obtain ⟨I2, hf⟩ := new_tup I1 z r
  exact ⟨.ref s1.heap.objs.size, _, I2, rfl, q _ _ hf rfl⟩
def rTupleF (K : PySem.W.Frag) : List V → Hp → VK → Prop := fun xs H Q => ∃ p ys, xs = [.ref p] ∧
  ((SqL K H p ys ∧ ∀ (l : Addr) (ob : Obj), H l = none → ob.dict = none → Q (.ref l) (upd H l (.frz ob (.tup ys)))) ∨ (SqT K H p ys ∧ Q (.ref p) H))
theorem call_tupleF : CallR X (.type "tuple") (rTupleF X.K) := by
  intro pins s σ H xs us Q I r hh
  obtain ⟨p, ys, rfl, hh⟩ := hh
  obtain ⟨u, rfl, rx⟩ := vals1 r
  cases rx
  rcases hh with ⟨hq, q⟩ | ⟨hq, q⟩
  · obtain ⟨its, r2, pl, hz⟩ := I.list hq
    refine call_tuple_list pl.isList (fun h2 kp => ?_) (by have := r2.length; simp only [List.size_toArray]; omega)
    have I1 : Inv X pins σ H { s with heap := h2 } := I.kept (t' := s.toks) kp
    obtain ⟨I2, hf⟩ := new_tup I1 hz r2
    exact ⟨.ref h2.objs.size, _, I2, rfl, q _ _ hf rfl⟩
  · exact call_tuple_of pins s σ H _ _ Q I r ⟨p, ys, rfl, .inr ⟨hq, q⟩⟩
end
/-! ### the operators -/
section
variable {K : PySem.W.Frag} {mg : Str → Option Value} {W : WX} {σD : SD} {σ : List (Option V)} {F0 H0 F H : Hp} {Q : VK} {d e : D} {v u : V}
/-- what an operator's rule must do -/
def OpS (K : PySem.W.Frag) (mg : Str → Option Value) (f : D → D → R DK) (r : R2) : Prop := ∀ {W : WX} {σD : SD} {σ : List (Option V)} {F0 H0 F H : Hp} {Q : VK} {d e : D} {v u : V},
  Ext F0 H0 F H → Seen K F H d v → Seen K F H e u → PostR K mg W σ F0 H0 (f d e) (PE' K σD σ F0 H0 Q) → r v u H Q
theorem rep_int {i : Int} : Rep K F (.int i) (.int i) := by simp only [Rep]
theorem rep_bl {i : Bool} : Rep K F (.bl i) (.bl i) := by simp only [Rep]
theorem rep_str {i : Str} : Rep K F (.str i) (.str i) := by simp only [Rep]
theorem seen_int {i : Int} (h : Seen K F H (.int i) v) : v = .int i := by simpa only [Seen, Rep] using h
theorem seen_str {i : Str} (h : Seen K F H (.str i) v) : v = .str i := by simpa only [Seen, Rep] using h
theorem seen_bl {i : Bool} (h : Seen K F H (.bl i) v) : v = .bl i := by simpa only [Seen, Rep] using h
theorem seen_non (h : Seen K F H .non v) : v = .non := by simpa only [Seen, Rep] using h
end
def CDivX (i j : Int) : Prop := j ≠ 0 ∧ j.natAbs.log2 < 9000
section
variable {X : Cx}
theorem op_fdivX : OpR X (binaryOp .FloorDiv) (rI CDivX fun i j => .int (i.fdiv j)) := opI fun i j _ _ _ _ _ hc q =>
  floordiv_int hc.1 q (.inl (PyProof.noPylong_of_log2 hc.2))
theorem strRep_eq (s : Str) (n : Nat) : (⟨(List.replicate n s.cps).foldl (· ++ ·) #[]⟩ : Str) = strRep s n := by
  have h : ∀ (n : Nat) (a : Array Nat), (List.replicate n s.cps).foldl (· ++ ·) a = a ++ ((List.replicate n s.cps.toList).flatten).toArray := by
    intro n
    induction n with
    | zero => intro a; simp
    | succ n ih =>
      intro a
      rw [List.replicate_succ, List.foldl_cons, ih, List.replicate_succ, List.flatten_cons]
      apply Array.ext'
      simp
  unfold strRep
  rw [h]
  congr 1
  simp
def rRepS : R2 := fun x y H Q => ∃ (s : Str) (n : Int), x = .str s ∧ y = .int n ∧ (0 ≤ n ∧ n ≤ 1000 ∧ s.length ≤ 1000) ∧ Q (.str (strRep s n.toNat)) H
theorem op_repS : OpR X (binaryOp .Mult) rRepS := by
  intro pins s σ H x y v u Q I rx ry h
  obtain ⟨z, n, rfl, rfl, ⟨h0, h1, h2⟩, q⟩ := h
  obtain ⟨t, rfl⟩ := rx
  obtain ⟨t', rfl⟩ := ry
  have e63 : (2 : Int) ^ 63 = 9223372036854775808 := by decide
  have key : Q (.str (strRep z n.toNat)) H := q
  refine P.mul_str ?_ ?_ ?_ ?_
  · rw [Bool.or_eq_false_iff]
    exact ⟨decide_eq_false (by omega), decide_eq_false (by omega)⟩
  · intro hn _ hgt
    have h3 : (9223372036854775807 : Int) / n ≥ 9223372036854775 := by
      have : (9223372036854775 : Int) * n ≤ 9223372036854775807 := by omega
      exact (Int.le_ediv_iff_mul_le (by omega)).mpr this
    have e2 : ((2 : Int) ^ 63 - 1) = 9223372036854775807 := by decide
    rw [e2] at hgt
    omega
  · intro hn _
    have hn1 : n.toNat ≤ 1000 := by omega
    have hm : z.length * n.toNat ≤ 1000 * 1000 := Nat.mul_le_mul h2 hn1
    unfold Builtin.Str.tooLong
    rw [decide_eq_false_iff_not]
    have e : sizeLine = 16777216 := sizeLine_eq
    omega
  · split
    · rename_i hn
      have e0 : n.toNat = 0 := by omega
      have e1 : strRep z n.toNat = Str.empty := by rw [e0]; rfl
      rw [e1] at key
      exact ⟨by decide, ⟨.str _, H, I.tok _, ⟨_, rfl⟩, key⟩⟩
    · rename_i hn
      split
      · rename_i hc
        have e1 : strRep z n.toNat = z := by
          rw [Bool.or_eq_true] at hc
          rcases hc with hc | hc
          · have : n = 1 := by simpa using hc
            subst this
            unfold strRep
            simp
          · have hz : z.cps.size = 0 := by simpa [Str.length] using hc
            unfold strRep
            obtain ⟨c⟩ := z
            have : c = #[] := by simpa using hz
            subst this
            congr 1
            simp
        rw [e1] at key
        exact ⟨.str _, H, I, ⟨_, rfl⟩, key⟩
      · rw [strRep_eq]
        refine ⟨?_, ⟨.str _, H, I.tok _, ⟨_, rfl⟩, key⟩⟩
        have hl : (strRep z n.toNat).length = n.toNat * z.length := by
          show ((List.replicate n.toNat z.cps.toList).flatten).toArray.size = _
          rw [List.size_toArray, List.length_flatten, List.map_replicate, List.sum_replicate_nat]
          rfl
        have hm : n.toNat * z.length ≤ 1000 * 1000 := Nat.mul_le_mul (by omega) h2
        rw [hl, sizeLine_eq]
        omega
end
end MP

namespace MP
open PySem PySem.Spec PyProof.Rows L2
section
variable {X : Cx} {K : PySem.W.Frag} {mg : Str → Option Value}
theorem len_line {n : Nat} (h : n ≤ 1000000) : n ≤ sizeLine := by rw [sizeLine_eq]; omega
theorem seen_lst {F H : Hp} {ds : List D} {v : V} (h : Seen K F H (.lst ds) v) : ∃ a vs, v = .ref a ∧ H a = some (.lst vs) ∧ Reps K F ds vs := h
theorem seen_dic {F H : Hp} {ds : List (Str × D)} {v : V} (h : Seen K F H (.dic ds) v) : ∃ a vs, v = .ref a ∧ Rd H a (.dK vs) ∧ RepKs K F ds vs := h
theorem seen_tup {F H : Hp} {ds : List D} {v : V} (s : Sub F H) (h : Seen K F H (.tup ds) v) : ∃ a vs, v = .ref a ∧ TupF F a vs ∧ SqT K H a vs ∧ Reps K F ds vs := by
  simp only [Seen, Rep] at h
  obtain ⟨a, vs, e, q, r⟩ := h
  exact ⟨a, vs, e, q, s.sqt q.sqt, r⟩
theorem seen_scr {F H : Hp} {ds : List Int} {v : V} (s : Sub F H) (h : Seen K F H (.scr ds) v) : ∃ a, v = .ref a ∧ SqL K H a (ds.map V.int) := by
  simp only [Seen, Rep] at h
  obtain ⟨a, e, q⟩ := h
  exact ⟨a, e, s.sql q⟩
theorem reps_rep : ∀ (n : Nat) {F : Hp} {ds : List D} {vs : List V}, Reps K F ds vs → Reps K F (List.replicate n ds).flatten (List.replicate n vs).flatten
  | 0, _, _, _, _ => by simp [Reps]
  | n + 1, _, _, _, h => by
    simp only [List.replicate_succ, List.flatten_cons]
    exact Reps.append h (reps_rep n h)
def rCatF (K : PySem.W.Frag) : R2 := fun x y H Q => ∃ a b xs ys, x = .ref a ∧ y = .ref b ∧ SqT K H a xs ∧ SqT K H b ys ∧ xs.length + ys.length ≤ sizeLine ∧
  (xs = [] → Q (.ref b) H) ∧ (xs ≠ [] → ys = [] → Q (.ref a) H) ∧ (xs ≠ [] → ys ≠ [] → ∀ (p : Addr) (ob : Obj), H p = none → ob.dict = none → Q (.ref p) (upd H p (.frz ob (.tup (xs ++ ys)))))
theorem op_catF : OpR X (binaryOp .Add) (rCatF X.K) := by
  intro pins s σ H x y v u Q I rx ry hh
  obtain ⟨a, b, xs, ys, rfl, rfl, ha, hb, hz, q0, q1, q2⟩ := hh
  by_cases hx : xs = []
  · exact op_catA pins s σ H _ _ v u Q I rx ry ⟨a, b, xs, ys, rfl, rfl, ha, hb, hz, q0, q1, fun n => absurd hx n⟩
  · by_cases hy : ys = []
    · exact op_catA pins s σ H _ _ v u Q I rx ry ⟨a, b, xs, ys, rfl, rfl, ha, hb, hz, q0, q1, fun _ n => absurd hy n⟩
    · have q3 := q2 hx hy
      cases rx
      cases ry
      obtain ⟨i1, r1, p1, _⟩ := I.tuple ha
      obtain ⟨i2, r2, p2, _⟩ := I.tuple hb
      have e1 := r1.length
      have e2 := r2.length
      refine HT.cat_tup p1 p2 (fun z => hx (r1.nil_iff.mp z)) (fun z => absurd (r2.nil_iff.mp z) hy) (fun _ => ?_) (by omega)
      obtain ⟨I2, hf⟩ := new_tup (xs := xs ++ ys) (us := i1 ++ i2) I (by rw [List.length_append]; exact hz) (r1.append r2)
      exact ⟨.ref s.heap.objs.size, _, I2, rfl, q3 _ _ hf rfl⟩
theorem add_ok : ∃ r, OpR X (binaryOp .Add) r ∧ OpS X.K mg (binD .add) r := by
  refine ⟨_, op_add.or (op_add_str.or (op_cat.or op_catF)), ?_⟩
  intro W σD σ F0 H0 F H Q d e v u x hd he h
  cases d <;> cases e <;> simp only [binD] at h <;> try exact False.elim h
  case int.int => exact .inl ⟨_, _, seen_int hd, seen_int he, post_fz x h rep_int⟩
  case str.str =>
    obtain ⟨g, h⟩ := h.grd
    exact .inr (.inl ⟨_, _, seen_str hd, seen_str he, len_line g, post_fz x h rep_str⟩)
  case tup.tup l1 l2 =>
    obtain ⟨g, h⟩ := h.grd
    obtain ⟨a, vs, rfl, q1, q2, r⟩ := seen_tup x.h hd
    obtain ⟨b, us, rfl, p1, p2, t⟩ := seen_tup x.h he
    refine .inr (.inr (.inr ⟨a, b, vs, us, rfl, rfl, q2, p2, len_line (by rw [r.length, t.length]; exact g), fun e => ?_, fun _ e => ?_, fun _ _ p ob hp hd => ?_⟩))
    · subst e
      obtain rfl : l1 = [] := List.length_eq_zero_iff.mp (by simpa using r.length.symm)
      exact post_fz x h (by simp only [Rep, List.nil_append]; exact ⟨b, us, rfl, p1, t⟩)
    · subst e
      obtain rfl : l2 = [] := List.length_eq_zero_iff.mp (by simpa using t.length.symm)
      exact post_fz x h (by simp only [Rep, List.append_nil]; exact ⟨a, vs, rfl, q1, r⟩)
    · exact post_tup x h hp hd (r.append t)
  case lst.lst l1 l2 =>
    obtain ⟨g, h⟩ := h.grd
    obtain ⟨a, vs, rfl, q, r⟩ := seen_lst hd
    obtain ⟨b, us, rfl, p, t⟩ := seen_lst he
    exact .inr (.inr (.inl ⟨a, b, vs, us, rfl, rfl, q, p, len_line (by rw [r.length, t.length]; exact g), fun p hp => post_lst x h hp (r.append t)⟩))
theorem sub_ok : ∃ r, OpR X (binaryOp .Sub) r ∧ OpS X.K mg (binD .sub) r := by
  refine ⟨_, op_sub, ?_⟩
  intro W σD σ F0 H0 F H Q d e v u x hd he h
  cases d <;> cases e <;> simp only [binD] at h <;> try exact False.elim h
  · exact ⟨_, _, seen_int hd, seen_int he, post_fz x h rep_int⟩
theorem mul_ok : ∃ r, OpR X (binaryOp .Mult) r ∧ OpS X.K mg (binD .mul) r := by
  refine ⟨_, op_mulX.or (op_repS.or op_rep), ?_⟩
  intro W σD σ F0 H0 F H Q d e v u x hd he h
  cases d <;> cases e <;> simp only [binD] at h <;> try exact False.elim h
  case int.int =>
    obtain ⟨g, h⟩ := h.grd
    exact .inl ⟨_, _, seen_int hd, seen_int he, g, post_fz x h rep_int⟩
  case str.int =>
    obtain ⟨g, h⟩ := h.grd
    exact .inr (.inl ⟨_, _, seen_str hd, seen_int he, g, post_fz x h rep_str⟩)
  case lst.int l n =>
    obtain ⟨g, h⟩ := h.grd
    obtain ⟨a, vs, rfl, q, r⟩ := seen_lst hd
    have hm : vs.length * n.toNat ≤ 1000 * 1000 := Nat.mul_le_mul (by rw [r.length]; exact g.2.2) (by omega)
    exact .inr (.inr ⟨a, n, vs, rfl, seen_int he, q, by omega, by omega, len_line (by omega), fun p hp => post_lst x h hp (reps_rep _ r)⟩)
theorem fdiv_ok : ∃ r, OpR X (binaryOp .FloorDiv) r ∧ OpS X.K mg (binD .fdiv) r := by
  refine ⟨_, op_fdivX, ?_⟩
  intro W σD σ F0 H0 F H Q d e v u x hd he h
  cases d <;> cases e <;> simp only [binD] at h <;> try exact False.elim h
  · obtain ⟨g, h⟩ := h.grd
    exact ⟨_, _, seen_int hd, seen_int he, g, post_fz x h rep_int⟩
theorem mod_ok : ∃ r, OpR X (binaryOp .Mod) r ∧ OpS X.K mg (binD .mod) r := by
  refine ⟨_, op_modN, ?_⟩
  intro W σD σ F0 H0 F H Q d e v u x hd he h
  cases d <;> cases e <;> simp only [binD] at h <;> try exact False.elim h
  · obtain ⟨g, h⟩ := h.grd
    exact ⟨_, _, seen_int hd, seen_int he, g, post_fz x h rep_int⟩
theorem pow_ok : ∃ r, OpR X (binaryOp .Pow) r ∧ OpS X.K mg (binD .pow) r := by
  refine ⟨_, op_pow, ?_⟩
  intro W σD σ F0 H0 F H Q d e v u x hd he h
  cases d <;> cases e <;> simp only [binD] at h <;> try exact False.elim h
  · obtain ⟨g, h⟩ := h.grd
    exact ⟨_, _, seen_int hd, seen_int he, g, post_fz x h rep_int⟩
theorem bin_ok {o : BO} {op : Operator} (h : o.is op = true) : ∃ r, OpR X (binaryOp op) r ∧ OpS X.K mg (binD o) r := by
  cases o <;> cases op <;> first | exact absurd h (by decide) | exact add_ok | exact sub_ok | exact mul_ok | exact fdiv_ok | exact mod_ok | exact pow_ok
/-! ### comparisons -/
mutual
theorem dp_of {F H : Hp} (s : Sub F H) : ∀ (d : D) (v : V), Rep K F d v → SeqAt.shaped (toPy d) = true ∨ (toPy d).canLay0 = true → Dp K H v (toPy d)
  | .non, _, h, _ => by simp only [Rep] at h; subst h; exact Dp.non
  | .bl _, _, h, _ => by simp only [Rep] at h; subst h; exact Dp.bl _
  | .int _, _, h, _ => by simp only [Rep] at h; subst h; exact Dp.int _
  | .str _, _, h, _ => by simp only [Rep] at h; subst h; exact Dp.str _
  | .tup ds, _, h, c => by
    simp only [Rep] at h
    obtain ⟨a, vs, rfl, q, r⟩ := h
    simp only [toPy]
    refine Dp.tup (s.sqt q.sqt) (dps_of s ds vs r ?_)
    rcases c with c | c
    · have := SeqAt.canLay_of_shaped c; simpa only [toPy, PyData.canLay0] using this
    · simpa only [toPy, PyData.canLay0] using c
  | .lst ds, _, h, c => by
    simp only [Rep] at h
    obtain ⟨a, vs, rfl, q, r⟩ := h
    simp only [toPy]
    refine Dp.lst (SqL.of (s _ _ q)) (dps_of s ds vs r ?_)
    rcases c with c | c
    · have := SeqAt.canLay_of_shaped c; simpa only [toPy, PyData.canLay0] using this
    · simpa only [toPy, PyData.canLay0] using c
  | .dic ks, _, h, c => by
    rcases c with c | c
    · have := SeqAt.canLay_of_shaped c; simp only [toPy, PyData.canLay0] at this; cases this
    · simp only [toPy, PyData.canLay0] at c; cases c
  | .scr ks, _, h, c => by
    rcases c with c | c
    · have := SeqAt.canLay_of_shaped c; simp only [toPy, PyData.canLay0] at this; cases this
    · simp only [toPy, PyData.canLay0] at c; cases c
theorem dps_of {F H : Hp} (s : Sub F H) : ∀ (d : List D) (v : List V), Reps K F d v → PyData.canLayAll0 (toPys d) = true → DpAll K H v (toPys d)
  | [], _, h, _ => by simp only [Reps] at h; subst h; simp only [toPys]; exact DpAll.nil
  | d :: ds, _, h, c => by
    simp only [Reps] at h
    obtain ⟨v, r, rfl, h1, h2⟩ := h
    simp only [toPys, PyData.canLayAll0, Bool.and_eq_true] at c ⊢
    exact DpAll.cons (dp_of s d v h1 (.inr c.1)) (dps_of s ds r h2 c.2)
end
theorem dp_seen {F H : Hp} (s : Sub F H) {d : D} {v : V} (h : Seen K F H d v) (o : okD d) : Dp K H v (toPy d) := by
  cases d with
  | lst ds =>
    obtain ⟨a, vs, rfl, q, r⟩ := seen_lst h
    simp only [toPy]
    refine Dp.lst (SqL.of q) (dps_of s ds vs r ?_)
    have := SeqAt.canLay_of_shaped o; simpa only [toPy, PyData.canLay0] using this
  | dic ks => have := SeqAt.canLay_of_shaped o; simp only [toPy, PyData.canLay0] at this; cases this
  | _ => exact dp_of s _ _ h (.inl o)
theorem non_iff {F H : Hp} {d : D} {v : V} (h : Seen K F H d v) : decide (v = .non) = isNon d := by
  cases d <;> simp only [Seen, Rep] at h
  · subst h; rfl
  · subst h; rfl
  · subst h; rfl
  · subst h; rfl
  · obtain ⟨a, vs, rfl, _⟩ := h; rfl
  · obtain ⟨a, vs, rfl, _⟩ := h; rfl
  · obtain ⟨a, vs, rfl, _⟩ := h; rfl
  · obtain ⟨a, rfl, _⟩ := h; rfl
theorem eq_okS (hu : X.A.units + 64 < cLine) : ∃ r, OpR X (compareOp .Eq) r ∧ OpS X.K mg (cmpD .eq) r := by
  refine ⟨_, op_eqD hu, ?_⟩
  intro W σD σ F0 H0 F H Q d e v u x hd he h
  simp only [cmpD] at h
  obtain ⟨g, h⟩ := h.grd
  exact ⟨_, _, dp_seen x.h hd g.1, dp_seen x.h he g.2, g.1, g.2, post_fz x h rep_bl⟩
theorem ne_okS (hu : X.A.units + 64 < cLine) : ∃ r, OpR X (compareOp .NotEq) r ∧ OpS X.K mg (cmpD .ne) r := by
  refine ⟨_, op_neD hu, ?_⟩
  intro W σD σ F0 H0 F H Q d e v u x hd he h
  simp only [cmpD] at h
  obtain ⟨g, h⟩ := h.grd
  exact ⟨_, _, dp_seen x.h hd g.1, dp_seen x.h he g.2, g.1, g.2, post_fz x h rep_bl⟩
theorem lt_okS : ∃ r, OpR X (compareOp .Lt) r ∧ OpS X.K mg (cmpD .lt) r := by
  refine ⟨_, op_lt, ?_⟩
  intro W σD σ F0 H0 F H Q d e v u x hd he h
  cases d <;> cases e <;> simp only [cmpD] at h <;> try exact False.elim h
  exact ⟨_, _, seen_int hd, seen_int he, post_fz x h rep_bl⟩
theorem le_okS : ∃ r, OpR X (compareOp .LtE) r ∧ OpS X.K mg (cmpD .le) r := by
  refine ⟨_, op_le.or op_le_str, ?_⟩
  intro W σD σ F0 H0 F H Q d e v u x hd he h
  cases d <;> cases e <;> simp only [cmpD] at h <;> try exact False.elim h
  · exact .inl ⟨_, _, seen_int hd, seen_int he, post_fz x h rep_bl⟩
  · exact .inr ⟨_, _, seen_str hd, seen_str he, post_fz x h rep_bl⟩
theorem gt_okS : ∃ r, OpR X (compareOp .Gt) r ∧ OpS X.K mg (cmpD .gt) r := by
  refine ⟨_, op_gt, ?_⟩
  intro W σD σ F0 H0 F H Q d e v u x hd he h
  cases d <;> cases e <;> simp only [cmpD] at h <;> try exact False.elim h
  exact ⟨_, _, seen_int hd, seen_int he, post_fz x h rep_bl⟩
theorem ge_okS : ∃ r, OpR X (compareOp .GtE) r ∧ OpS X.K mg (cmpD .ge) r := by
  refine ⟨_, op_ge, ?_⟩
  intro W σD σ F0 H0 F H Q d e v u x hd he h
  cases d <;> cases e <;> simp only [cmpD] at h <;> try exact False.elim h
  exact ⟨_, _, seen_int hd, seen_int he, post_fz x h rep_bl⟩
theorem isN_okS : ∃ r, OpR X (compareOp .Is) r ∧ OpS X.K mg (cmpD .isN) r := by
  refine ⟨_, op_isN, ?_⟩
  intro W σD σ F0 H0 F H Q d e v u x hd he h
  have g : e = .non := by cases e <;> first | rfl | (simp only [cmpD] at h; exact False.elim h)
  subst g
  simp only [cmpD] at h
  exact ⟨seen_non he, post_fz x h (by rw [non_iff hd]; exact rep_bl)⟩
theorem notN_okS : ∃ r, OpR X (compareOp .IsNot) r ∧ OpS X.K mg (cmpD .notN) r := by
  refine ⟨_, op_notN, ?_⟩
  intro W σD σ F0 H0 F H Q d e v u x hd he h
  have g : e = .non := by cases e <;> first | rfl | (simp only [cmpD] at h; exact False.elim h)
  subst g
  simp only [cmpD] at h
  exact ⟨seen_non he, post_fz x h (by rw [non_iff hd]; exact rep_bl)⟩
end
end MP

namespace MP
open PySem PySem.Spec PyProof.Rows L2
section
variable {X : Cx} {K : PySem.W.Frag} {mg : Str → Option Value}
/-! ### in -/
def rDIn (neg : Bool) : R2 := fun y x H Q => ∃ a o, x = .ref a ∧ DGet H a y o ∧ Q (.bl (if neg then !o.isSome else o.isSome)) H
theorem op_dIn (hu : X.A.units + 1 < cLine) : OpR X (compareOp .In) (rDIn false) := by
  intro pins s σ H y x v u Q I ry rx hh
  obtain ⟨a, o, rfl, g, q⟩ := hh
  cases rx
  exact d_in hu I g ry fun s3 I3 => ⟨.bl o.isSome, H, I3, rfl, q⟩
theorem op_dNotIn (hu : X.A.units + 1 < cLine) : OpR X (compareOp .NotIn) (rDIn true) := by
  intro pins s σ H y x v u Q I ry rx hh
  obtain ⟨a, o, rfl, g, q⟩ := hh
  cases rx
  exact d_notIn hu I g ry fun s3 I3 => ⟨.bl (!o.isSome), H, I3, rfl, q⟩
theorem dget_of {F H : Hp} {ks : List (Str × D)} {a : Addr} {vs : List (Key × V)} (hr : Rd H a (.dK vs)) (r : RepKs K F ks vs) (k : Str) : ∃ o : Option V, DGet H a (.str k) o ∧
    ((∃ d v, dget ks k = some d ∧ o = some v ∧ Rep K F d v) ∨ (dget ks k = none ∧ o = none)) := by
  refine ⟨valV vs (Sum.inr k), .inl ⟨vs, Sum.inr k, hr, rfl, rfl⟩, ?_⟩
  exact r.val k
theorem toPys_any (d : D) : ∀ ds : List D, ((toPys ds).any fun z => PyData.eqv z (toPy d)) = ds.any fun z => eqD z d
  | [] => by simp [toPys]
  | e :: ds => by simp only [toPys, List.any_cons, toPys_any d ds, eqD]
theorem oneSign_eq {k : Str} {c : Nat} (h : oneSign k = some c) : k = ⟨#[c]⟩ := by
  obtain ⟨a⟩ := k
  unfold oneSign at h
  split at h
  · rename_i c' e
    cases h
    have : a = #[c] := Array.ext' (by simpa using e)
    rw [this]
  · cases h
theorem grd_is {α : Type} {p : Prop} {r q : R α} (h : grd p r = q) (hq : q ≠ .stuck := by intro z; cases z) : p ∧ r = q := by
  by_cases hp : p
  · rw [grd_pos hp] at h; exact ⟨hp, h⟩
  · rw [grd_neg hp] at h; exact absurd h.symm hq
theorem inD_cases {d e : D} {b : Bool} (h : inD d e = .ok b) :
    (∃ k ks, d = .str k ∧ e = .dic ks ∧ b = (dget ks k).isSome) ∨ (∃ c z, d = .str ⟨#[c]⟩ ∧ e = .str z ∧ b = decide (c ∈ z.cps.toList)) ∨
    (∃ ds, e = .lst ds ∧ okD d ∧ okD (.lst ds) ∧ b = ds.any fun z => eqD z d) ∨ (∃ ds, e = .tup ds ∧ okD d ∧ okD (.tup ds) ∧ b = ds.any fun z => eqD z d) := by
  cases e with
  | dic ks =>
    cases d <;> simp only [inD] at h <;> first | cases h; done | skip
    cases h
    exact .inl ⟨_, _, rfl, rfl, rfl⟩
  | str z =>
    cases d <;> simp only [inD] at h <;> first | cases h; done | skip
    rename_i k
    cases o : oneSign k with
    | none => rw [o] at h; cases h
    | some c =>
      rw [o] at h
      cases h
      rw [oneSign_eq o]
      exact .inr (.inl ⟨c, z, rfl, rfl, rfl⟩)
  | lst ds =>
    simp only [inD] at h
    obtain ⟨g, h⟩ := grd_is h
    cases h
    exact .inr (.inr (.inl ⟨ds, rfl, g.1, g.2, rfl⟩))
  | tup ds =>
    simp only [inD] at h
    obtain ⟨g, h⟩ := grd_is h
    cases h
    exact .inr (.inr (.inr ⟨ds, rfl, g.1, g.2, rfl⟩))
  | _ => simp only [inD] at h; cases h
theorem inD_err {d e : D} {x : Exn} : inD d e ≠ .err x := by
  intro h
  cases e with
  | dic ks => cases d <;> simp only [inD] at h <;> cases h
  | str z =>
    cases d <;> simp only [inD] at h <;> first | cases h; done | skip
    rename_i k
    cases o : oneSign k <;> rw [o] at h <;> cases h
  | lst ds =>
    simp only [inD] at h
    obtain ⟨g, h⟩ := grd_is h
    cases h
  | tup ds =>
    simp only [inD] at h
    obtain ⟨g, h⟩ := grd_is h
    cases h
  | _ => simp only [inD] at h; cases h
theorem cmp_in_cases {neg : Bool} {d e : D} {W : WX} {σ : List (Option V)} {F0 H0 : Hp} {P : DK → Prop} (h : PostR K mg W σ F0 H0 ((inD d e).bind fun b => .ok (.bl (if neg then !b else b), .fz)) P) :
    (∃ k ks, d = .str k ∧ e = .dic ks ∧ P (.bl (if neg then !(dget ks k).isSome else (dget ks k).isSome), .fz)) ∨
    (∃ c z, d = .str ⟨#[c]⟩ ∧ e = .str z ∧ P (.bl (if neg then !decide (c ∈ z.cps.toList) else decide (c ∈ z.cps.toList)), .fz)) ∨
    (∃ ds, e = .lst ds ∧ okD d ∧ okD (.lst ds) ∧ P (.bl (if neg then !(ds.any fun z => eqD z d) else ds.any fun z => eqD z d), .fz)) ∨
    (∃ ds, e = .tup ds ∧ okD d ∧ okD (.tup ds) ∧ P (.bl (if neg then !(ds.any fun z => eqD z d) else ds.any fun z => eqD z d), .fz)) := by
  cases r : inD d e with
  | ok b =>
    rw [r] at h
    have h : P (.bl (if neg then !b else b), .fz) := h
    rcases inD_cases r with ⟨k, ks, e1, e2, e3⟩ | ⟨c, z, e1, e2, e3⟩ | ⟨ds, e1, g1, g2, e3⟩ | ⟨ds, e1, g1, g2, e3⟩
    · rw [e3] at h; exact .inl ⟨k, ks, e1, e2, h⟩
    · rw [e3] at h; exact .inr (.inl ⟨c, z, e1, e2, h⟩)
    · rw [e3] at h; exact .inr (.inr (.inl ⟨ds, e1, g1, g2, h⟩))
    · rw [e3] at h; exact .inr (.inr (.inr ⟨ds, e1, g1, g2, h⟩))
  | err x => exact absurd r inD_err
  | stuck => rw [r] at h; exact h.elim
/-- in a tuple of plain data -/
def rInT (K : PySem.W.Frag) (neg : Bool) : R2 := fun x y H Q => ∃ d ds, Dp K H x d ∧ Dp K H y (.tuple ds) ∧ SeqAt.shaped d = true ∧ SeqAt.shaped (.tuple ds) = true ∧ Q (.bl (if neg then !(ds.any fun z => PyData.eqv z d) else ds.any fun z => PyData.eqv z d)) H
theorem room_T {A : Around} {d : PyData} {ds : List PyData} (s : SeqAt.shaped d = true) (hu : A.units + 65 < cLine) : A.units + 1 + min (PyData.depthAll ds) d.depth < cLine := by
  have h1 := SeqAt.depth_of_shaped s
  have h2 := Nat.min_le_right (PyData.depthAll ds) d.depth
  omega
theorem op_inT (hu : X.A.units + 65 < cLine) : OpR X (compareOp .In) (rInT X.K false) := by
  rintro pins s σ H x y v u Q I rx ry ⟨d, ds, hd, he, sd, se, q⟩
  obtain ⟨as, r1⟩ := Dp.reads I d x v hd rx
  obtain ⟨bs, r2⟩ := Dp.reads I (.tuple ds) y u he ry
  exact SeqAt.in_tuple_reads r2 r1 (by have := SeqAt.canLay_of_shaped se; simpa only [PyData.canLay0] using this) (SeqAt.canLay_of_shaped sd) (room_T sd hu) ⟨.bl _, H, I, rfl, q⟩
theorem op_notInT (hu : X.A.units + 65 < cLine) : OpR X (compareOp .NotIn) (rInT X.K true) := by
  rintro pins s σ H x y v u Q I rx ry ⟨d, ds, hd, he, sd, se, q⟩
  obtain ⟨as, r1⟩ := Dp.reads I d x v hd rx
  obtain ⟨bs, r2⟩ := Dp.reads I (.tuple ds) y u he ry
  exact SeqAt.notIn_tuple_reads r2 r1 (by have := SeqAt.canLay_of_shaped se; simpa only [PyData.canLay0] using this) (SeqAt.canLay_of_shaped sd) (room_T sd hu) ⟨.bl _, H, I, rfl, q⟩
theorem in_okS (hu : X.A.units + 65 < cLine) : ∃ r, OpR X (compareOp .In) r ∧ OpS X.K mg (cmpD .inn) r := by
  refine ⟨_, (op_dIn (by omega)).or (op_in_sign.or ((op_inD hu).or (op_inT hu))), ?_⟩
  intro W σD σ F0 H0 F H Q d e v u x hd he h
  simp only [cmpD] at h
  rcases cmp_in_cases (neg := false) (by simpa using h) with ⟨k, ks, rfl, rfl, p⟩ | ⟨c, z, rfl, rfl, p⟩ | ⟨ds, rfl, g1, g2, p⟩ | ⟨ds, rfl, g1, g2, p⟩
  · obtain ⟨a, vs, rfl, q, r⟩ := seen_dic he
    rw [seen_str hd]
    obtain ⟨o, g, t⟩ := dget_of q r k
    refine .inl ⟨a, o, rfl, g, ?_⟩
    have e : o.isSome = (dget ks k).isSome := by rcases t with ⟨d, v, e1, e2, _⟩ | ⟨e1, e2⟩ <;> rw [e1, e2] <;> rfl
    simp only [Bool.false_eq_true, if_false] at p ⊢
    rw [e]
    exact post_fz x p rep_bl
  · exact .inr (.inl ⟨c, z, seen_str hd, seen_str he, post_fz x p rep_bl⟩)
  · have h2 := dp_seen x.h he g2
    simp only [toPy] at h2
    refine .inr (.inr (.inl ⟨_, _, dp_seen x.h hd g1, h2, g1, (by have z := g2; unfold okD at z; simpa only [toPy] using z), ?_⟩))
    rw [toPys_any]
    exact post_fz x p rep_bl
  · have h2 := dp_seen x.h he g2
    simp only [toPy] at h2
    refine .inr (.inr (.inr ⟨_, _, dp_seen x.h hd g1, h2, g1, (by have z := g2; unfold okD at z; simpa only [toPy] using z), ?_⟩))
    rw [toPys_any]
    exact post_fz x p rep_bl
theorem notin_okS (hu : X.A.units + 65 < cLine) : ∃ r, OpR X (compareOp .NotIn) r ∧ OpS X.K mg (cmpD .notin) r := by
  refine ⟨_, (op_dNotIn (by omega)).or (op_notIn_sign.or ((op_notInD hu).or (op_notInT hu))), ?_⟩
  intro W σD σ F0 H0 F H Q d e v u x hd he h
  simp only [cmpD] at h
  rcases cmp_in_cases (neg := true) (by simpa using h) with ⟨k, ks, rfl, rfl, p⟩ | ⟨c, z, rfl, rfl, p⟩ | ⟨ds, rfl, g1, g2, p⟩ | ⟨ds, rfl, g1, g2, p⟩
  · obtain ⟨a, vs, rfl, q, r⟩ := seen_dic he
    rw [seen_str hd]
    obtain ⟨o, g, t⟩ := dget_of q r k
    refine .inl ⟨a, o, rfl, g, ?_⟩
    have e : o.isSome = (dget ks k).isSome := by rcases t with ⟨d, v, e1, e2, _⟩ | ⟨e1, e2⟩ <;> rw [e1, e2] <;> rfl
    simp only [if_true] at p ⊢
    rw [e]
    exact post_fz x p rep_bl
  · exact .inr (.inl ⟨c, z, seen_str hd, seen_str he, post_fz x p rep_bl⟩)
  · have h2 := dp_seen x.h he g2
    simp only [toPy] at h2
    refine .inr (.inr (.inl ⟨_, _, dp_seen x.h hd g1, h2, g1, (by have z := g2; unfold okD at z; simpa only [toPy] using z), ?_⟩))
    rw [toPys_any]
    exact post_fz x p rep_bl
  · have h2 := dp_seen x.h he g2
    simp only [toPy] at h2
    refine .inr (.inr (.inr ⟨_, _, dp_seen x.h hd g1, h2, g1, (by have z := g2; unfold okD at z; simpa only [toPy] using z), ?_⟩))
    rw [toPys_any]
    exact post_fz x p rep_bl
/-! ### dicts of plain data compared -/
def SamePy (K : PySem.W.Frag) (H : Hp) (x y : V) : Prop := ∃ d e : PyData, Dp K H x d ∧ Dp K H y e ∧ SeqAt.shaped d = true ∧ SeqAt.shaped e = true ∧ PyData.eqv d e = true
def rEqK (K : PySem.W.Frag) (r : Bool) : R2 := fun x y H Q => ∃ a b ks ls, x = .ref a ∧ y = .ref b ∧ Rd H a (.dK ks) ∧ Rd H b (.dK ls) ∧ ks.length = ls.length ∧ (∀ p ∈ ks, ∃ u, valV ls p.1 = some u ∧ SamePy K H p.2 u) ∧ Q (.bl r) H
theorem hits_py {pins : List (Addr × Obj)} {σ : L2.St} {H : Hp} {s : Shared} (I : Inv X pins σ H s) {A : Around} (hu : A.units + 64 < cLine) {ls : List (Key × V)} {vb : List (Key × Value)} (rb : KV ls vb) {ks : List (Key × V)} {va : List (Key × Value)}
    (ra : KV ks va) : (∀ p ∈ ks, ∃ u, valV ls p.1 = some u ∧ SamePy X.K H p.2 u) → PySem.W.KeqHits A s vb va true := by
  unfold KV at ra
  induction ra with
  | nil => intro _; exact PySem.W.KeqHits.nil
  | @cons p q ps qs hpq tl ih =>
    intro all
    obtain ⟨u, e1, d, e, d1, d2, s1, s2, ev⟩ := all p List.mem_cons_self
    obtain ⟨key, v⟩ := q
    obtain ⟨k1, k2⟩ := hpq
    have k1 : p.1 = key := k1
    have at_b : RelO (some u) (valueAt vb key) := by
      rw [← e1, k1]
      exact rb.val key
    obtain ⟨y, y1, y2⟩ := at_b.some_of
    obtain ⟨as, r1⟩ := Dp.reads I d p.2 v d1 k2
    obtain ⟨bs, r2⟩ := Dp.reads I e u y d2 y2
    have h3 := SeqAt.eqAt_reads d e A s v y as bs r1 r2 (SeqAt.canLay_of_shaped s1) (SeqAt.canLay_of_shaped s2) (by
      have := SeqAt.depth_of_shaped s1
      have := Nat.min_le_left d.depth e.depth
      omega)
    rw [ev] at h3
    exact PySem.W.KeqHits.hit (b := true) y1 h3 (ih fun p' m => all p' (List.mem_cons_of_mem _ m))
theorem op_eqK (hu : X.A.units + 65 < cLine) : OpR X (compareOp .Eq) (rEqK X.K true) := by
  rintro pins s σ H x y v u Q I rx ry ⟨a, b, ks, ls, rfl, rfl, ha, hb, hl, hp, q⟩
  cases (show v = Value.ref a from rx)
  cases (show u = Value.ref b from ry)
  obtain ⟨_, na, va, ra, da⟩ := dk_rd I.hok ha
  obtain ⟨_, nb, vb, rb, db⟩ := dk_rd I.hok hb
  have len : (va.length == vb.length && true) = true := by rw [← ra.length, ← rb.length, hl]; simp
  refine PySem.W.keq_eq (knd := mixKind X.prog X.w) (r := true) na nb da db (by omega) (fun _ => hits_py I (A := X.A.in1) (by show X.A.units + 1 + 64 < cLine; omega) rb ra hp) ?_
  rw [len]
  exact ⟨.bl true, H, I, rfl, q⟩
theorem op_neK (hu : X.A.units + 65 < cLine) : OpR X (compareOp .NotEq) (rEqK X.K false) := by
  rintro pins s σ H x y v u Q I rx ry ⟨a, b, ks, ls, rfl, rfl, ha, hb, hl, hp, q⟩
  cases (show v = Value.ref a from rx)
  cases (show u = Value.ref b from ry)
  obtain ⟨_, na, va, ra, da⟩ := dk_rd I.hok ha
  obtain ⟨_, nb, vb, rb, db⟩ := dk_rd I.hok hb
  have len : (va.length == vb.length && true) = true := by rw [← ra.length, ← rb.length, hl]; simp
  refine PySem.W.keq_ne (knd := mixKind X.prog X.w) (r := true) na nb da db (by omega) (fun _ => hits_py I (A := X.A.in1) (by show X.A.units + 1 + 64 < cLine; omega) rb ra hp) ?_
  rw [len]
  exact ⟨.bl false, H, I, rfl, q⟩
theorem repKs_all {F H : Hp} {K : PySem.W.Frag} (sub : Sub F H) {ls : List (Str × D)} {vb : List (Key × V)} (rb : RepKs K F ls vb) : ∀ {ks : List (Str × D)} {va : List (Key × V)}, RepKs K F ks va → (∀ p ∈ ks, ∃ u, dget ls p.1 = some u ∧ okD p.2 ∧ okD u ∧ eqD p.2 u = true) →
    ∀ p ∈ va, ∃ u, valV vb p.1 = some u ∧ SamePy K H p.2 u
  | [], _, r, _, p, hp => by simp only [RepKs] at r; subst r; simp at hp
  | (k, d) :: ks, _, r, h, p, hp => by
    simp only [RepKs] at r
    obtain ⟨v, vs, rfl, r1, r2⟩ := r
    rcases List.mem_cons.mp hp with rfl | hp
    · obtain ⟨u, e1, o1, o2, ev⟩ := h (k, d) List.mem_cons_self
      rcases rb.val k with ⟨d', w, g1, g2, g3⟩ | ⟨g1, _⟩
      · have e1 : dget ls k = some u := e1
        rw [e1] at g1
        cases g1
        refine ⟨w, g2, toPy d, toPy u, dp_seen sub (Seen.of sub r1) o1, dp_seen sub (Seen.of sub g3) o2, o1, o2, ev⟩
      · have e1 : dget ls k = some u := e1
        rw [e1] at g1
        cases g1
    · exact repKs_all sub rb r2 (fun q hq => h q (List.mem_cons_of_mem _ hq)) p hp
theorem eqk_okS (hu : X.A.units + 65 < cLine) : ∃ r, OpR X (compareOp .Eq) r ∧ OpS X.K mg (cmpD .eqk) r := by
  refine ⟨_, op_eqK hu, ?_⟩
  intro W σD σ F0 H0 F H Q d e v u x hd he h
  cases d <;> cases e <;> simp only [cmpD] at h <;> try exact False.elim h
  obtain ⟨g, h⟩ := h.grd
  obtain ⟨a, vs, rfl, q1, r1⟩ := seen_dic hd
  obtain ⟨b, us, rfl, q2, r2⟩ := seen_dic he
  exact ⟨a, b, vs, us, rfl, rfl, q1, q2, by rw [r1.length, r2.length]; exact g.1, repKs_all x.h r2 r1 g.2, post_fz x h rep_bl⟩
theorem nek_okS (hu : X.A.units + 65 < cLine) : ∃ r, OpR X (compareOp .NotEq) r ∧ OpS X.K mg (cmpD .nek) r := by
  refine ⟨_, op_neK hu, ?_⟩
  intro W σD σ F0 H0 F H Q d e v u x hd he h
  cases d <;> cases e <;> simp only [cmpD] at h <;> try exact False.elim h
  obtain ⟨g, h⟩ := h.grd
  obtain ⟨a, vs, rfl, q1, r1⟩ := seen_dic hd
  obtain ⟨b, us, rfl, q2, r2⟩ := seen_dic he
  exact ⟨a, b, vs, us, rfl, rfl, q1, q2, by rw [r1.length, r2.length]; exact g.1, repKs_all x.h r2 r1 g.2, post_fz x h rep_bl⟩
theorem cmp_ok (hu : X.A.units + 65 < cLine) {o : CO} {op : CmpOp} (h : o.is op = true) : ∃ r, OpR X (compareOp op) r ∧ OpS X.K mg (cmpD o) r := by
  have h1 : X.A.units + 64 < cLine := by omega
  cases o <;> cases op <;> first | exact absurd h (by decide) | exact eq_okS h1 | exact ne_okS h1 | exact lt_okS | exact le_okS | exact gt_okS | exact ge_okS | exact isN_okS | exact notN_okS | exact in_okS hu | exact notin_okS hu | exact eqk_okS hu | exact nek_okS hu
end
end MP

namespace MP
open PySem PySem.Spec PyProof.Rows L2
/-! ### readings of trees, as terms -/
section
variable {X : Cx} {mg : Str → Option Value} {W : WX}
theorem PostR.rOpt {K : PySem.W.Frag} {α β : Type} {σ : List (Option V)} {F H : Hp} {o : Option α} {f : α → R β} {P : β → Prop} (h : PostR K mg W σ F H (MP.rOpt o f) P) : ∃ a, o = some a ∧ PostR K mg W σ F H (f a) P := by
  cases o with
  | none => exact h.elim
  | some a => exact ⟨a, rfl, h⟩
theorem PostR.optOk {K : PySem.W.Frag} {σ : List (Option V)} {F H : Hp} {o : Option D} {P : DK → Prop} (h : PostR K mg W σ F H (MP.optOk o) P) : ∃ a, o = some a ∧ P (a, .fz) := by
  cases o with
  | none => exact h.elim
  | some a => exact ⟨a, rfl, h⟩
theorem den_var {i : Nat} {x : Str} {pos : Pos} (hN : X.N[i]? = some x) (hv : Vis X.env.scope x) (hd : (x == ("__debug__" : Str)) = false) (hc : (x == ("__classdict__" : Str)) = false) : PE X (.Name x pos) (den X.K mg W (.var i)) :=
  (pe_var hN hv hd hc).imp fun σ H Q hh => by
    obtain ⟨σD, F, sl, h⟩ := hh
    simp only [ev] at h
    cases e : σD[i]? with
    | none => rw [e] at h; exact h.elim
    | some o =>
      cases o with
      | none => rw [e] at h; exact h.elim
      | some p =>
        obtain ⟨d, b⟩ := p
        cases b with
        | false =>
          rw [e] at h
          obtain ⟨v, e1, r⟩ := sl.fz i d e
          exact ⟨v, e1, post_fz (Ext.refl sl.sub) h r⟩
        | true =>
          rw [e] at h
          obtain ⟨a, e1, _, _⟩ := sl.ow i d e
          exact ⟨_, e1, h F H _ (Ext.refl sl.sub) ⟨i, e, e1⟩⟩
theorem den_const {e : E} {ast : Expr} {d : D} {v : V} (h : PE X ast (tC v)) (he : ∀ σ, ev e σ = .ok (d, .fz)) (r : ∀ F, Rep X.K F d v) : PE X ast (den X.K mg W e) :=
  h.imp fun σ H Q hh => by
    obtain ⟨σD, F, sl, h⟩ := hh
    rw [he] at h
    exact post_fz (Ext.refl sl.sub) h (r F)
/-- two operands, an operator -/
theorem den_op {e a b : E} {f : D → D → R DK} {r : R2} {ast : Expr} {x y : Expr} (hr : OpS X.K mg f r) (he : ∀ σ, ev e σ = (ev a σ).bind fun p => (ev b σ).bind fun q => f p.1 q.1)
    (h : PE X ast (tOp r (den X.K mg W a) (den X.K mg W b))) : PE X ast (den X.K mg W e) :=
  h.imp fun σ H Q hh => by
    obtain ⟨σD, F, sl, h⟩ := hh
    rw [he] at h
    refine den_in (Ext.refl sl.sub) sl h fun p F1 H1 v _ e1 x1 s1 v1 h1 => ?_
    refine den_in x1 s1 h1 fun q F2 H2 u _ e2 x2 s2 v2 h2 => ?_
    exact hr x2 ((v1.ext e2.f).seen s2) (v2.seen s2) h2
theorem den_un {e a : E} {f : D → R DK} {r : V → Hp → VK → Prop} {ast : Expr}
    (hr : ∀ {σD : SD} {σ : List (Option V)} {F0 H0 F H : Hp} {Q : VK} {d : D} {v : V}, Ext F0 H0 F H → Seen X.K F H d v → PostR X.K mg W σ F0 H0 (f d) (PE' X.K σD σ F0 H0 Q) → r v H Q)
    (he : ∀ σ, ev e σ = (ev a σ).bind fun p => f p.1) (h : PE X ast (tUn r (den X.K mg W a))) : PE X ast (den X.K mg W e) :=
  h.imp fun σ H Q hh => by
    obtain ⟨σD, F, sl, h⟩ := hh
    rw [he] at h
    refine den_in (Ext.refl sl.sub) sl h fun p F1 H1 v _ e1 x1 s1 v1 h1 => ?_
    exact hr x1 (v1.seen s1) h1
theorem neg_ok {σD : SD} {σ : List (Option V)} {F0 H0 F H : Hp} {Q : VK} {d : D} {v : V} (x : Ext F0 H0 F H) (s : Seen X.K F H d v) (h : PostR X.K mg W σ F0 H0 (negD d) (PE' X.K σD σ F0 H0 Q)) : rU (fun i => .int (-i)) v H Q := by
  cases d <;> simp only [negD] at h <;> try exact False.elim h
  exact ⟨_, seen_int s, post_fz x h rep_int⟩
/-! ### items -/
theorem atI_map {α β : Type} (f : α → β) (xs : List α) (i : Int) : atI (xs.map f) i = (atI xs i).map f := by
  unfold atI
  rw [List.length_map]
  cases ixN xs.length i with
  | none => rfl
  | some j => simp
theorem reps_at {K : PySem.W.Frag} {F : Hp} {ds : List D} {vs : List V} {i : Int} {d : D} (r : Reps K F ds vs) (h : atI ds i = some d) : ∃ v, atI vs i = some v ∧ Rep K F d v := by
  unfold atI at h ⊢
  rw [r.length]
  cases e : ixN ds.length i with
  | none => rw [e] at h; cases h
  | some j => rw [e] at h; exact r.get h
theorem plainIx_of {b : Expr} (hs : okX b = true) : PlainIx b := by
  intro o i
  cases b <;> first | rfl | (simp only [okX] at hs; exact absurd hs (by decide))
theorem noSl_of {b : Expr} (hs : okX b = true) : NoSl b := by
  intro o i
  cases b <;> first | rfl | (simp only [okX] at hs; exact absurd hs (by decide))
theorem ixD_notdic {σD : SD} {σ : List (Option V)} {F0 H0 F H : Hp} {Q : VK} {d e : D} {v u : V} (x : Ext F0 H0 F H) (hd : Seen X.K F H d v) (he : Seen X.K F H e u) (h : PostR X.K mg W σ F0 H0 (ixD d e) (PE' X.K σD σ F0 H0 Q)) (n : ∀ ks, d ≠ .dic ks) :
    rIx X.K v u H Q := by
  cases d <;> cases e <;> simp only [ixD] at h <;> try exact False.elim h
  case str.int z i =>
    obtain ⟨g, h⟩ := h.grd
    obtain ⟨a, e, p⟩ := h.optOk
    cases o : atI z.cps.toList i with
    | none => rw [o] at e; cases e
    | some c =>
      rw [o] at e; cases e
      exact .inr (.inr ⟨z, i, c, seen_str hd, seen_int he, len_line g, o, post_fz x p rep_str⟩)
  case tup.int ds i =>
    obtain ⟨a, e, p⟩ := h.optOk
    obtain ⟨b, vs, rfl, q1, q2, r⟩ := seen_tup x.h hd
    obtain ⟨w, e1, e2⟩ := reps_at r e
    exact .inr (.inl ⟨b, vs, i, w, rfl, seen_int he, q2, e1, post_fz x p e2⟩)
  case lst.int ds i =>
    obtain ⟨a, e, p⟩ := h.optOk
    obtain ⟨b, vs, rfl, q, r⟩ := seen_lst hd
    obtain ⟨w, e1, e2⟩ := reps_at r e
    exact .inl ⟨b, vs, i, w, rfl, seen_int he, SqL.of q, e1, post_fz x p e2⟩
  case dic.str ks k => exact absurd rfl (n ks)
  case scr.int ds i =>
    obtain ⟨a, e, p⟩ := h.optOk
    obtain ⟨b, rfl, q⟩ := seen_scr x.h hd
    cases o : atI ds i with
    | none => rw [o] at e; cases e
    | some c =>
      rw [o] at e; cases e
      exact .inl ⟨b, _, i, .int c, rfl, seen_int he, q, by rw [atI_map, o]; rfl, post_fz x p rep_int⟩
theorem den_ix (hu : X.A.units + 1 < cLine) {a b : E} {x y : Expr} {pos : Pos} (ha : PE X x (den X.K mg W a)) (hb : PE X y (den X.K mg W b)) (hs : okX y = true) : PE X (.Subscript x y pos) (den X.K mg W (.ix a b)) := by
  have h1 : PE X (.Subscript x y pos) (tOp (fun x y H Q => rIx X.K x y H Q) (den X.K mg W a) (den X.K mg W b)) := pe_ix ix_seq ha hb (plainIx_of hs)
  have h2 : PE X (.Subscript x y pos) (tDGet (den X.K mg W a) (den X.K mg W b)) := pe_dget hu ha hb (noSl_of hs)
  refine (h1.or h2).imp fun σ H Q hh => ?_
  obtain ⟨σD, F, sl, h⟩ := hh
  simp only [ev] at h
  by_cases hd : ∃ ks k, ev a σD = .ok (.dic ks, k)
  · right
    obtain ⟨ks, k, ea⟩ := hd
    refine den_in (Ext.refl sl.sub) sl h fun p F1 H1 v ep e1 x1 s1 v1 h1 => ?_
    rw [ea] at ep
    cases ep
    refine den_in x1 s1 h1 fun q F2 H2 u _ e2 x2 s2 v2 h2 => ?_
    obtain ⟨b, vs, rfl, q1, r⟩ := seen_dic ((v1.ext e2.f).seen s2)
    obtain ⟨e, j⟩ := q
    cases e <;> simp only [ixD] at h2 <;> try exact False.elim h2
    case str key _ =>
      obtain ⟨d, ed, p⟩ := h2.optOk
      obtain ⟨o, g, t⟩ := dget_of q1 r key
      rw [seen_str (v2.seen s2)]
      rcases t with ⟨d', w, e1, e2, r2⟩ | ⟨e1, e2⟩
      · subst e2
        rw [ed] at e1; cases e1
        exact ⟨b, w, rfl, g, post_fz x2 p r2⟩
      · rw [ed] at e1; cases e1
  · left
    refine den_in (Ext.refl sl.sub) sl h fun p F1 H1 v ep e1 x1 s1 v1 h1 => ?_
    refine den_in x1 s1 h1 fun q F2 H2 u _ e2 x2 s2 v2 h2 => ?_
    exact ixD_notdic x2 ((v1.ext e2.f).seen s2) (v2.seen s2) h2 fun ks e => hd ⟨ks, p.2, by rw [ep, ← e]⟩
/-! ### slices -/
theorem cut_reps {K : PySem.W.Frag} {F : Hp} {ds : List D} {vs : List V} (lo hi : Option Int) (r : Reps K F ds vs) : Reps K F (cutL ds lo hi) (cutV vs lo hi) := by
  unfold cutL cutV
  rw [r.length]
  exact (r.drop _).take _
def rSlF (K : PySem.W.Frag) : V → Option Int → Option Int → Hp → VK → Prop := fun x lo hi H Q => ∃ a xs, x = .ref a ∧ SqT K H a xs ∧
  (HT.sIx xs.length 0 lo = 0 ∧ HT.sIx xs.length xs.length hi = xs.length → Q (.ref a) H) ∧
  (¬ (HT.sIx xs.length 0 lo = 0 ∧ HT.sIx xs.length xs.length hi = xs.length) → ∀ (p : Addr) (ob : Obj), H p = none → ob.dict = none → Q (.ref p) (upd H p (.frz ob (.tup (cutV xs lo hi)))))
theorem sl_tupF : SlR X (rSlF X.K) := by
  intro pins s σ H x v vl vu lo hi sl Q I rx hs pl pu hh
  obtain ⟨a, xs, rfl, hx, q1, q2⟩ := hh
  by_cases hw : HT.sIx xs.length 0 lo = 0 ∧ HT.sIx xs.length xs.length hi = xs.length
  · exact sl_tupA pins s σ H _ v vl vu lo hi sl Q I rx hs pl pu ⟨a, xs, rfl, hx, q1, fun n => absurd hw n⟩
  · have q := q2 hw
    cases rx
    obtain ⟨its, r, ht, hz⟩ := I.tuple hx
    have el := r.length
    have hsz : its.toArray.size = xs.length := by rw [List.size_toArray, el]
    refine ⟨"tuple", _, PyProof.Rows.slot_tuple_getitem.lookup, ht.typeIs, HT.getItem_tuple_cut ht hs pl pu (by rw [hsz]; exact hw) ?_ (by rw [hsz]; exact hz)⟩
    rw [hsz]
    obtain ⟨I2, hf⟩ := new_tup (xs := cutV xs lo hi) I (Nat.le_trans (cutV_length xs lo hi) hz) ((r.drop (HT.sIx xs.length 0 lo)).take (HT.sIx xs.length xs.length hi - HT.sIx xs.length 0 lo))
    exact ⟨.ref s.heap.objs.size, _, I2, rfl, q _ _ hf rfl⟩
theorem sl_ok : ∃ r, SlR X r ∧ ∀ {σD : SD} {σ : List (Option V)} {F0 H0 F H : Hp} {Q : VK} {d : D} {v : V} {lo hi : Option Int}, Ext F0 H0 F H → Seen X.K F H d v → PostR X.K mg W σ F0 H0 (slD d lo hi) (PE' X.K σD σ F0 H0 Q) → r v lo hi H Q := by
  refine ⟨_, sl_tupF.or (sl_list.or sl_str), ?_⟩
  intro σD σ F0 H0 F H Q d v lo hi x hd h
  cases d <;> simp only [slD] at h <;> try exact False.elim h
  case str z =>
    obtain ⟨g, h⟩ := h.grd
    exact .inr (.inr ⟨z, seen_str hd, len_line g, post_fz x h rep_str⟩)
  case tup ds =>
    obtain ⟨a, vs, rfl, q1, q2, r⟩ := seen_tup x.h hd
    refine .inl ⟨a, vs, rfl, q2, fun e => ?_, fun _ p ob hp hb => post_tup x h hp hb (cut_reps lo hi r)⟩
    have e2 : cutL ds lo hi = ds := by
      unfold cutL
      rw [r.length] at e
      rw [e.1, e.2]
      simp
    rw [e2] at h
    exact post_fz x h (by simp only [Rep]; exact ⟨a, vs, rfl, q1, r⟩)
  case lst ds =>
    obtain ⟨a, vs, rfl, q, r⟩ := seen_lst hd
    exact .inr (.inl ⟨a, vs, rfl, SqL.of q, fun p hp => post_lst x h hp (cut_reps lo hi r)⟩)
theorem den_slf {a b : E} {x y : Expr} {pos p2 : Pos} (ha : PE X x (den X.K mg W a)) (hb : PE X y (den X.K mg W b)) : PE X (.Subscript x (.Slice (some y) none none p2) pos) (den X.K mg W (.slf a b)) := by
  obtain ⟨r, hr, hS⟩ := sl_ok (X := X) (mg := mg) (W := W)
  refine (pe_slice hr ha (po_some hb) po_none).imp fun σ H Q hh => ?_
  obtain ⟨σD, F, sl, h⟩ := hh
  simp only [ev] at h
  refine den_in (Ext.refl sl.sub) sl h fun p F1 H1 v _ e1 x1 s1 v1 h1 => ?_
  refine den_in x1 s1 h1 fun q F2 H2 u _ e2 x2 s2 v2 h2 => ?_
  obtain ⟨e, j⟩ := q
  cases e <;> try exact False.elim h2
  exact ⟨_, seen_int (v2.seen s2), hS x2 ((v1.ext e2.f).seen s2) h2⟩
theorem den_slt {a b : E} {x y : Expr} {pos p2 : Pos} (ha : PE X x (den X.K mg W a)) (hb : PE X y (den X.K mg W b)) : PE X (.Subscript x (.Slice none (some y) none p2) pos) (den X.K mg W (.slt a b)) := by
  obtain ⟨r, hr, hS⟩ := sl_ok (X := X) (mg := mg) (W := W)
  refine (pe_slice hr ha po_none (po_some hb)).imp fun σ H Q hh => ?_
  obtain ⟨σD, F, sl, h⟩ := hh
  simp only [ev] at h
  refine den_in (Ext.refl sl.sub) sl h fun p F1 H1 v _ e1 x1 s1 v1 h1 => ?_
  refine den_in x1 s1 h1 fun q F2 H2 u _ e2 x2 s2 v2 h2 => ?_
  obtain ⟨e, j⟩ := q
  cases e <;> try exact False.elim h2
  exact ⟨_, seen_int (v2.seen s2), hS x2 ((v1.ext e2.f).seen s2) h2⟩
/-! ### isinstance -/
theorem ty_of {F H : Hp} {d : D} {v : V} (s : Sub F H) (h : Seen X.K F H d v) : TyX X.K H v (.type (tyD d)) := by
  cases d with
  | non => rw [seen_non h]; exact .base .non
  | bl b => rw [seen_bl h]; exact .base (.bl _)
  | int b => rw [seen_int h]; exact .base (.int _)
  | str b => rw [seen_str h]; exact .base (.str _)
  | tup ds =>
    simp only [Seen, Rep] at h
    obtain ⟨a, vs, rfl, ⟨o, e, _⟩, _⟩ := h
    exact .fTuple (s _ _ e)
  | lst ds => obtain ⟨a, vs, rfl, q, _⟩ := seen_lst h; exact .base (.lst q)
  | dic ds =>
    obtain ⟨a, vs, rfl, q, _⟩ := seen_dic h
    rcases q with q | ⟨o, q⟩
    · exact .base (.dK q)
    · exact .fDict q
  | scr ns =>
    obtain ⟨a, rfl, q⟩ := seen_scr s h
    rcases q with (q | ⟨o, q⟩) | ⟨o, its, n, hk, hc, _⟩
    · exact .base (.lst q)
    · exact .base (.frz q)
    · exact .kList hk hc
theorem kit_all (c : String) (f : String → Bool) (h : (["NoneType", "bool", "int", "str", "tuple", "list", "dict"].all fun t => decide (kitB t c = some (f t))) = true) (d : D) : kitB (tyD d) c = some (f (tyD d)) := by
  rw [List.all_eq_true] at h
  have m : tyD d ∈ ["NoneType", "bool", "int", "str", "tuple", "list", "dict"] := by cases d <;> simp [tyD]
  simpa using h _ m
theorem den_isi {a : E} {c g : Str} {x : Expr} {p p2 pos : Pos} (ha : PE X x (den X.K mg W a)) (hx : okX x = true) (hg : g = ("isinstance" : Str)) (hG : Gl X g) (hc : Gl X c) (hm : X.mg "isinstance" = none) (hty : isTyName c = true)
    (hn : ∀ y : Str, isTyName y = true → X.mg y = none) (star : ∀ (e : Expr) (es : List Expr), okX e = true → starEach (e :: es) X.env = (false, eval e X.env) :: starEach es X.env) : PE X (.Call (.Name g p) [x, .Name c p2] [] pos) (den X.K mg W (.isi a c)) := by
  subst hg
  have hmc : X.mg c = none := hn c hty
  have key : ∃ ty : String, bootBuiltins c = some (.type ty) ∧ c ≠ "__name__" ∧ (c == ("__debug__" : Str)) = false ∧ ∀ d : D, ∃ b, isiD d c = .ok (.bl b, .fz) ∧ PySem.W.kitOne X.K (.type (tyD d)) (.type ty) = some b := by
    have h : c = "int" ∨ c = "bool" ∨ c = "str" ∨ c = "tuple" ∨ c = "list" ∨ c = "dict" := by
      unfold isTyName at hty
      simpa using hty
    rcases h with rfl | rfl | rfl | rfl | rfl | rfl
    · exact ⟨"int", by decide +kernel, by decide, by decide, fun d => ⟨_, rfl, kit_ty (kit_all "int" (fun t => t == "int" || t == "bool") (by decide +kernel) d)⟩⟩
    · exact ⟨"bool", by decide +kernel, by decide, by decide, fun d => ⟨_, rfl, kit_ty (kit_all "bool" (fun t => t == "bool") (by decide +kernel) d)⟩⟩
    · exact ⟨"str", by decide +kernel, by decide, by decide, fun d => ⟨_, rfl, kit_ty (kit_all "str" (fun t => t == "str") (by decide +kernel) d)⟩⟩
    · exact ⟨"tuple", by decide +kernel, by decide, by decide, fun d => ⟨_, rfl, kit_ty (kit_all "tuple" (fun t => t == "tuple") (by decide +kernel) d)⟩⟩
    · exact ⟨"list", by decide +kernel, by decide, by decide, fun d => ⟨_, rfl, kit_ty (kit_all "list" (fun t => t == "list") (by decide +kernel) d)⟩⟩
    · exact ⟨"dict", by decide +kernel, by decide, by decide, fun d => ⟨_, rfl, kit_ty (kit_all "dict" (fun t => t == "dict") (by decide +kernel) d)⟩⟩
  obtain ⟨ty, hb, n1, n2, hd⟩ := key
  refine (pe_callB call_isi hG hm (by decide +kernel) (pa_cons ha (pa_cons (pe_bltn (v := .ty ty) hc hmc hb rfl n1 n2) pa_nil (star _ _ rfl)) (star _ _ hx)) (by decide) (by decide) (star _ _ hx) (by rw [star _ _ rfl]; rfl)).imp fun σ H Q hh => ?_
  obtain ⟨σD, F, sl, h⟩ := hh
  simp only [ev] at h
  refine den_in (Ext.refl sl.sub) sl h fun p F1 H1 v _ e1 x1 s1 v1 h1 => ?_
  obtain ⟨b, e2, e3⟩ := hd p.1
  rw [e2] at h1
  exact ⟨v, _, _, _, b, rfl, .ty ty, ty_of x1.h (v1.seen s1), e3, post_fz x1 h1 rep_bl⟩
end
end MP

namespace MP
open PySem PySem.Spec PyProof.Rows L2
/-! ### texts in order -/
theorem strLt_trans {a b c : Str} (h1 : strLt a b = true) (h2 : strLt b c = true) : strLt a c = true := by
  unfold strLt at *
  exact decide_eq_true (List.lt_trans (of_decide_eq_true h1) (of_decide_eq_true h2))
theorem strLt_irrefl (a : Str) : strLt a a = false := by
  unfold strLt
  exact decide_eq_false (List.lt_irrefl _)
theorem strLt_total {a b : Str} (h1 : strLt a b = false) (h2 : strLt b a = false) : a = b := by
  unfold strLt at *
  have e := List.le_antisymm (List.not_lt.mp (of_decide_eq_false h2)) (List.not_lt.mp (of_decide_eq_false h1))
  obtain ⟨x⟩ := a
  obtain ⟨y⟩ := b
  congr 1
  exact Array.ext' e
theorem strLe_trans {a b c : Str} (h1 : strLt b a = false) (h2 : strLt c b = false) : strLt c a = false := by
  unfold strLt at *
  have e1 := List.not_lt.mp (of_decide_eq_false h1)
  have e2 := List.not_lt.mp (of_decide_eq_false h2)
  exact decide_eq_false (List.not_lt.mpr (List.le_trans e1 e2))
def Up (l : List Str) : Prop := l.Pairwise fun a b => strLt b a = false
theorem insS_perm (x : Str) : ∀ l : List Str, (insS x l).Perm (x :: l)
  | [] => List.Perm.refl _
  | y :: ys => by
    unfold insS
    split
    · exact ((insS_perm x ys).cons y).trans (List.Perm.swap x y ys)
    · exact List.Perm.refl _
theorem sortS_perm : ∀ l : List Str, (sortS l).Perm l
  | [] => List.Perm.refl _
  | x :: xs => (insS_perm x (sortS xs)).trans ((sortS_perm xs).cons x)
theorem insS_up (x : Str) : ∀ l : List Str, Up l → Up (insS x l)
  | [], _ => List.pairwise_singleton _ _
  | y :: ys, h => by
    obtain ⟨h1, h2⟩ := List.pairwise_cons.mp h
    unfold insS
    by_cases c : strLt y x = true
    · rw [if_pos c]
      refine List.pairwise_cons.mpr ⟨fun z hz => ?_, insS_up x ys h2⟩
      rcases List.mem_cons.mp ((insS_perm x ys).mem_iff.mp hz) with rfl | hz
      · cases e : strLt z y with
        | false => rfl
        | true => have := strLt_trans c e; rw [strLt_irrefl] at this; cases this
      · exact h1 z hz
    · rw [if_neg c]
      have c' : strLt y x = false := by simpa using c
      refine List.pairwise_cons.mpr ⟨fun z hz => ?_, h⟩
      rcases List.mem_cons.mp hz with rfl | hz
      · exact c'
      · exact strLe_trans c' (h1 z hz)
theorem sortS_up : ∀ l : List Str, Up (sortS l)
  | [] => List.Pairwise.nil
  | x :: xs => insS_up x _ (sortS_up xs)
theorem up_unique : ∀ {l m : List Str}, Up l → Up m → l.Perm m → l = m
  | [], m, _, _, p => by rw [List.nil_perm.mp p]
  | x :: xs, [], _, _, p => absurd p.symm (by simp)
  | x :: xs, y :: ys, h1, h2, p => by
    obtain ⟨a1, a2⟩ := List.pairwise_cons.mp h1
    obtain ⟨b1, b2⟩ := List.pairwise_cons.mp h2
    have e : x = y := by
      have m1 := p.mem_iff.mp (List.mem_cons_self (a := x) (l := xs))
      have m2 := p.symm.mem_iff.mp (List.mem_cons_self (a := y) (l := ys))
      rcases List.mem_cons.mp m1 with e | m1
      · exact e
      · rcases List.mem_cons.mp m2 with e | m2
        · exact e.symm
        · exact strLt_total (b1 x m1) (a1 y m2) |>.symm ▸ rfl
    subst e
    rw [up_unique a2 b2 (List.Perm.cons_inv p)]
theorem rising_up : ∀ (r : List Str) (x : Str), risingS x r = true → Up (x :: r)
  | [], x, _ => List.pairwise_singleton _ _
  | y :: r, x, h => by
    unfold risingS at h
    rw [Bool.and_eq_true] at h
    have h1 : strLt y x = false := by
      unfold strLt
      rw [← PyProof.Rows.ltCps_eq]
      simpa using h.1
    have h2 := rising_up r y h.2
    refine List.pairwise_cons.mpr ⟨fun z hz => ?_, h2⟩
    rcases List.mem_cons.mp hz with rfl | hz
    · exact h1
    · exact strLe_trans h1 ((List.pairwise_cons.mp h2).1 z hz)
theorem sorted_is {ys xs : List Str} (p : ys.Perm xs) (h : sortedS ys = true) : ys = sortS xs := by
  refine up_unique ?_ (sortS_up xs) (p.trans (sortS_perm xs).symm)
  cases ys with
  | nil => exact List.Pairwise.nil
  | cons y r => exact rising_up r y h
theorem sortS_length (xs : List Str) : (sortS xs).length = xs.length := (sortS_perm xs).length_eq
section
variable {X : Cx}
def rSortL (K : PySem.W.Frag) : List V → Hp → VK → Prop := fun vs H Q => ∃ (a : Addr) (xs : List Str), vs = [V.ref a] ∧ SqL K H a (xs.map V.str) ∧ ∀ p, H p = none → Q (.ref p) (upd H p (.lst ((sortS xs).map V.str)))
theorem cr_sortL : CallR X (.builtin "sorted") (rSortL X.K) := by
  intro pins s σ H vs us Q I r hh
  obtain ⟨a, xs, rfl, hs, q⟩ := hh
  obtain ⟨its, rv, hl, hz⟩ := I.list hs
  rw [Vals.ref1 r]
  have e1 := rv.length
  refine PyProof.Rows.sorted_strsAny hl.isList rv.strs (by rw [← e1]; exact hz) fun out ys h1 h2 h3 => ?_
  obtain rfl := sorted_is h2 h3
  obtain ⟨ep, he⟩ := PyProof.Rows.sortedAll_at s.heap its out
  have hlen : ((sortS xs).map V.str).length ≤ sizeLine := by
    rw [List.length_map, sortS_length]
    rw [List.length_map] at hz
    exact hz
  have new : ObjOk X.prog X.w (upd H (s.heap.objs.size + 1) (.lst ((sortS xs).map V.str))) (PyProof.Rows.sortedAll s.heap its out) (s.heap.objs.size + 1) (.lst ((sortS xs).map V.str)) := ⟨hlen, out.toList, ep, vals_of_strs h1, he⟩
  have I2 := I.laid (t' := s.toks) (fun _ _ => PyProof.Rows.sortedAll_old) (Nat.le_succ _) new
  exact ⟨.ref _, _, I2, rfl, q _ (I.hok.fresh (Nat.le_succ _))⟩
def rSortD : List V → Hp → VK → Prop := fun vs H Q => ∃ (a : Addr) (kvs : List (Key × V)) (ks : List Str), vs = [V.ref a] ∧ Rd H a (.dK kvs) ∧ kvs.map (·.1) = ks.map Sum.inr ∧ ∀ p, H p = none → Q (.ref p) (upd H p (.lst ((sortS ks).map V.str)))
theorem cr_sortD (hcalm : X.calm = true) : CallR X (.builtin "sorted") rSortD := by
  intro pins s σ H xs us Q I r hh
  obtain ⟨a, kvs, ks, rfl, hd, hks, q⟩ := hh
  rw [Vals.ref1 r]
  obtain ⟨z, lo, vs, rel, dd⟩ := dk_rd I.hok hd
  obtain ⟨ep, hat⟩ := dd.dictAt
  have hkeys : vs.map (·.1) = ks.map Sum.inr := by rw [← rel.keys]; exact hks
  have hl : vs.length = ks.length := by have e := congrArg List.length hkeys; simpa using e
  have hz : vs.length ≤ sizeLine := by rw [← rel.length]; exact z
  refine Calls.call_function_entry PyProof.Rows.kind_sorted PyProof.Rows.plain_sorted PyProof.Rows.entry_sorted (PyProof.Rows.args_sorted1 _) ?_
  unfold Builtin.«sorted»
  refine wpAny_bind (m := checkCount "sorted" 1 1 _) (wpAny_pure ?_)
  refine wpAny_bind (PySem.W.kdu_collect (PySem.W.kdl_dict (knd := mixKind X.prog X.w) (kvs := vs) (ep := ep) lo) (I.ok.hd hcalm) hat hz fun h1 tk acc hk hacc => ?_)
  have hal : acc.toList.length = ks.length := by rw [Array.length_toList, hacc.1, hl]
  have hS : StrsAre acc.toList ks := by
    refine L2.strs_at hal fun j v e => ?_
    obtain ⟨k, x, a1, a2⟩ := hacc.2 j v (by rw [← Array.getElem?_toList]; exact e)
    have a3 : (vs.map (·.1))[j]? = some k := by rw [List.getElem?_map, a1]; rfl
    rw [hkeys, List.getElem?_map] at a3
    cases a4 : ks[j]? with
    | none => rw [a4] at a3; cases a3
    | some y =>
      rw [a4] at a3
      cases a3
      obtain ⟨t, ev⟩ := Value.isStrOf_shape (x := y) (v := v) a2
      exact ⟨y, t, rfl, ev⟩
  have I1 : Inv X pins σ H { s with heap := h1, toks := tk } := I.kept hk
  have hz2 : acc.toList.length ≤ sizeLine := by rw [hal, ← hl]; exact hz
  refine wpAny_bind (wpAny_newList ?_ hz2)
  have ho : (h1.push (seqObj "list" acc.toList.toArray 0)).get? h1.objs.size = some (seqObj "list" acc.toList.toArray 0) := Heap.get?_push_size _ rfl
  show wpAny _ _ _ _ _ { s with heap := h1.push (seqObj "list" acc.toList.toArray 0), toks := tk }
  refine wpAny_bind (wpAny_holding (wpAny_call_entry PyProof.Rows.slot_list_sort ⟨_, ho, rfl⟩ PyProof.Rows.entry_list_sort (PyProof.Rows.list_sort_treeKAny strKind_oneLt ho hS.keysOf (fun v₁ v₂ rest e => keyKind_strs (by rw [← e]; exact hS)) hz2 fun st hp hs => ⟨_, rfl, ?_⟩) (PyProof.Rows.args_list_sort _)))
  obtain ⟨ys, g1, g2, g3⟩ := sorted_out_str hS hp hs
  obtain rfl := sorted_is g2 g3
  obtain ⟨e2, he2⟩ := PyProof.Rows.sortedHeap_at (vs := acc.toList) (out := (arrOf st).map (·.2)) ho
  have hlen : ((sortS ks).map V.str).length ≤ sizeLine := by rw [List.length_map, sortS_length, ← hl]; exact hz
  have new : ObjOk X.prog X.w (upd H h1.objs.size (.lst ((sortS ks).map V.str))) (sortedHeap (h1.push (seqObj "list" acc.toList.toArray 0)) h1.objs.size acc.toList ((arrOf st).map (·.2))) h1.objs.size (.lst ((sortS ks).map V.str)) :=
    ⟨hlen, ((arrOf st).map (·.2)).toList, e2, vals_of_strs g1, by rw [Array.toArray_toList]; exact he2⟩
  have I2 := I1.laid (t' := tk) (fun b u e => by
    have hb : b < h1.objs.size := Heap.lt_size e
    rw [PyProof.Rows.sortedHeap_old (Nat.ne_of_lt hb) (by rw [size_push']; exact Nat.lt_succ_of_lt hb)]
    exact Heap.get?_push_of_some _ e) (Nat.le_refl _) new
  exact wpAny_pure ⟨_, rfl, .ref h1.objs.size, _, I2, rfl, q _ (I1.hok.fresh (Nat.le_refl _))⟩
/-- dict(pairs), the pairs in a tuple -/
theorem pairs_at {pins : List (Addr × Obj)} {σ : L2.St} {H F : Hp} {s : Shared} (I : Inv X pins σ H s) (sub : Sub F H) : ∀ {ds : List D} {ps : List (Str × D)} {vs : List V} {us : List Value}, ds.mapM asPair = some ps → Reps X.K F ds vs → Vals vs us →
    ∃ (Ts : Nat → Addr) (prs : List (Value × Value)) (kws : List (Key × V)) (rs : List (Key × Value)), RepKs X.K F ps kws ∧ KV kws rs ∧ prs.length = us.length ∧ rs.length = us.length ∧
      ∀ j k v, prs[j]? = some (k, v) → us[j]? = some (.ref (Ts j)) ∧ PySem.PairAt s.heap (Ts j) k v ∧ ∃ kk, rs[j]? = some (kk, v) ∧ (mixKind X.prog X.w).is kk k = true
  | [], ps, vs, us, h, r, rv => by
    simp only [Reps] at r
    subst r
    cases rv
    have : ps = [] := by simpa using h.symm
    subst this
    exact ⟨fun _ => 0, [], [], [], RepKs.nil, .nil, rfl, rfl, fun j k v e => by simp at e⟩
  | d :: ds, ps, vs, us, h, r, rv => by
    simp only [Reps] at r
    obtain ⟨v, vr, rfl, r1, r2⟩ := r
    cases rv with
    | cons rv1 rv2 =>
      rename_i u ur
      rw [List.mapM_cons] at h
      cases e1 : asPair d with
      | none => rw [e1] at h; simp at h
      | some kd =>
        cases e2 : ds.mapM asPair with
        | none => rw [e1, e2] at h; simp at h
        | some pr =>
          rw [e1, e2] at h
          have h : kd :: pr = ps := by simpa using h
          subst h
          obtain ⟨Ts, prs, kws, rs, q1, q2, q3, q4, q5⟩ := pairs_at I sub e2 r2 rv2
          obtain ⟨k, dv⟩ := kd
          have ed : d = .tup [.str k, dv] := by
            unfold asPair at e1
            split at e1
            · cases e1; rfl
            · cases e1
          subst ed
          simp only [Rep, Reps] at r1
          obtain ⟨a, ws, rfl, tf, w1, wr, rfl, ew1, w2, wr2, rfl, rw2, ew2⟩ := r1
          subst ew1 ew2
          obtain ⟨its, ri, hT, _⟩ := I.tuple (sub.sqt tf.sqt)
          obtain ⟨x1, x2, ei, rx1, rx2⟩ := vals2 ri
          subst ei
          cases rv1
          refine ⟨fun j => match j with | 0 => a | j + 1 => Ts j, (x1, x2) :: prs, (.inr k, w2) :: kws, (.inr k, x2) :: rs, RepKs.cons rw2 q1, .cons ⟨rfl, rx2⟩ q2, by simp [q3], by simp [q4], fun j kk vv e => ?_⟩
          cases j with
          | zero =>
            have e' : (x1, x2) = (kk, vv) := by simpa using e
            cases e'
            exact ⟨rfl, .inl hT, .inr k, rfl, kV_is (P := X.prog) (w := X.w) (k := .inr k) rx1⟩
          | succ j =>
            obtain ⟨z1, z2, z3⟩ := q5 j kk vv (by simpa using e)
            exact ⟨by simpa using z1, z2, by simpa using z3⟩
theorem merge_reps {K : PySem.W.Frag} {F : Hp} : ∀ {ps : List (Str × D)} {kws : List (Key × V)} {acc : List (Str × D)} {av : List (Key × V)}, RepKs K F ps kws → RepKs K F acc av →
    RepKs K F (ps.foldl (fun acc p => dput acc p.1 p.2) acc) (mergeK av kws)
  | [], _, _, _, h, q => by simp only [RepKs] at h; subst h; exact q
  | (k, d) :: ps, _, _, _, h, q => by
    simp only [RepKs] at h
    obtain ⟨v, r, rfl, h1, h2⟩ := h
    exact merge_reps (acc := dput _ k d) (av := putK _ (.inr k) v) h2 (q.put h1)
def rDictT (K : PySem.W.Frag) : List V → Hp → VK → Prop := fun xs H Q => ∃ (F : Hp) (a : Addr) (vs : List V) (ds : List D) (ps : List (Str × D)), xs = [.ref a] ∧ Sub F H ∧ TupF F a vs ∧ Reps K F ds vs ∧ ds.mapM asPair = some ps ∧
  ∀ p kws, H p = none → RepKs K F (dicOf ps) kws → Q (.ref p) (upd H p (.dK kws))
theorem cr_dictT (hcalm : X.calm = true) : CallR X (.type "dict") (rDictT X.K) := by
  intro pins s σ H xs us Q I r hh
  obtain ⟨F, a, vs, ds, ps, rfl, sub, tf, rp, em, q⟩ := hh
  rw [Vals.ref1 r]
  obtain ⟨ob, hf, hdn⟩ := tf
  obtain ⟨hget, hz, its, rv, hT⟩ := I.hok a _ (sub _ _ hf)
  obtain ⟨o, ho, hc, n, hdat⟩ := hT
  have eo : o = ob := by rw [hget] at ho; exact (Option.some.inj ho).symm
  subst eo
  obtain ⟨Ts, prs, kws, rs, q1, q2, q3, q4, q5⟩ := pairs_at I sub em rp rv
  have hzl : prs.length ≤ sizeLine := by rw [q3, ← rv.length]; exact hz
  refine PySem.call_dict_pairs (knd := mixKind X.prog X.w) (kvs := rs) (PySem.PairArg.tuple (prog := X.prog) (w := X.w) a its.toArray Ts prs) (I.ok.hd hcalm) ⟨⟨o, n, ho, hc, hdn, hdat⟩, by simp [q3], fun j k v e => ⟨by simpa using (q5 j k v e).1, (q5 j k v e).2.1⟩⟩
    ⟨by rw [q4, q3], fun i key v e => (q5 i key v e).2.2⟩ hzl fun h2 tk hd hk => ?_
  have hm : (s.heap.objs.size == sysModules) = false := beq_eq_false_iff_ne.mpr (Nat.ne_of_gt I.big)
  have hlen : (mergeK [] kws).length ≤ sizeLine := by
    refine Nat.le_trans (length_mergeK kws []) ?_
    rw [List.length_nil, Nat.zero_add, q2.length, q4, ← rv.length]
    exact hz
  have I2 := I.laid (t' := tk) (o := .dK (mergeK [] kws)) (fun b o e => hk b o (by simp) e) (Nat.le_refl _) ⟨hlen, hm, merged [] rs, KV.merge q2 .nil, hd⟩
  exact ⟨.ref s.heap.objs.size, _, I2, rfl, q _ _ (I.hok.fresh (Nat.le_refl _)) (merge_reps q1 RepKs.nil)⟩
end
end MP

namespace MP
open PySem PySem.Spec PyProof.Rows L2
/-! ### built-in functions -/
def Seens (K : PySem.W.Frag) (F H : Hp) : List D → List V → Prop
  | [], vs => vs = []
  | d :: ds, vs => ∃ v r, vs = v :: r ∧ Seen K F H d v ∧ Seens K F H ds r
theorem seens1 {K : PySem.W.Frag} {F H : Hp} {d : D} {vs : List V} (h : Seens K F H [d] vs) : ∃ v, vs = [v] ∧ Seen K F H d v := by
  simp only [Seens] at h
  obtain ⟨v, r, rfl, h1, rfl⟩ := h
  exact ⟨v, rfl, h1⟩
theorem seens2 {K : PySem.W.Frag} {F H : Hp} {d e : D} {vs : List V} (h : Seens K F H [d, e] vs) : ∃ v w, vs = [v, w] ∧ Seen K F H d v ∧ Seen K F H e w := by
  simp only [Seens] at h
  obtain ⟨v, r, rfl, h1, w, r2, rfl, h2, rfl⟩ := h
  exact ⟨v, w, rfl, h1, h2⟩
theorem VFs.seens {K : PySem.W.Frag} {σD : SD} {σ : List (Option V)} {F H : Hp} (s : SL K σD σ F H) : ∀ {ps : List DK} {vs : List V}, VFs K σD σ F ps vs → Seens K F H (ps.map (·.1)) vs
  | [], _, h => h
  | p :: ps, _, h => by
    simp only [VFs] at h
    obtain ⟨v, r, rfl, h1, h2⟩ := h
    simp only [List.map_cons, Seens]
    exact ⟨v, r, rfl, h1.seen s, VFs.seens s h2⟩
theorem VFs.ext {K : PySem.W.Frag} {σD : SD} {σ : List (Option V)} {F F' : Hp} (s : Sub F F') : ∀ {ps : List DK} {vs : List V}, VFs K σD σ F ps vs → VFs K σD σ F' ps vs
  | [], _, h => h
  | p :: ps, _, h => by
    simp only [VFs] at h ⊢
    obtain ⟨v, r, rfl, h1, h2⟩ := h
    exact ⟨v, r, rfl, h1.ext s, VFs.ext s h2⟩
section
variable {X : Cx} {mg : Str → Option Value}
def BiS (K : PySem.W.Frag) (mg : Str → Option Value) (f : List D → R DK) (r : List V → Hp → VK → Prop) : Prop := ∀ {W : WX} {σD : SD} {σ : List (Option V)} {F0 H0 F H : Hp} {Q : VK} {ds : List D} {vs : List V},
  Ext F0 H0 F H → Seens K F H ds vs → PostR K mg W σ F0 H0 (f ds) (PE' K σD σ F0 H0 Q) → r vs H Q
theorem call_lenR : CallR X (.builtin "len") (fun xs H Q => ∃ a kvs, xs = [V.ref a] ∧ Rd H a (.dK kvs) ∧ Q (.int kvs.length) H) := by
  intro pins s σ H xs us Q I r hh
  obtain ⟨a, kvs, rfl, ha, q⟩ := hh
  rw [Vals.ref1 r]
  exact d_len I ha fun t s2 I2 => ⟨.int kvs.length, H, I2, ⟨t, rfl⟩, q⟩
theorem mapM_ints {K : PySem.W.Frag} {F : Hp} : ∀ {ds : List D} {ns : List Int} {vs : List V}, ds.mapM asInt = some ns → Reps K F ds vs → vs = ns.map V.int
  | [], ns, vs, h, r => by
    simp only [Reps] at r
    have : ns = [] := by simpa using h.symm
    subst r this
    rfl
  | d :: ds, ns, vs, h, r => by
    simp only [Reps] at r
    obtain ⟨v, vr, rfl, r1, r2⟩ := r
    rw [List.mapM_cons] at h
    cases e1 : asInt d with
    | none => rw [e1] at h; simp at h
    | some k =>
      cases e2 : ds.mapM asInt with
      | none => rw [e1, e2] at h; simp at h
      | some pr =>
        rw [e1, e2] at h
        have h : k :: pr = ns := by simpa using h
        subst h
        have ed : d = .int k := by cases d <;> simp [asInt] at e1; rw [e1]
        subst ed
        simp only [Rep] at r1
        rw [r1, mapM_ints e2 r2]; rfl
theorem mapM_bls {K : PySem.W.Frag} {F : Hp} : ∀ {ds : List D} {ns : List Bool} {vs : List V}, ds.mapM asBl = some ns → Reps K F ds vs → vs = ns.map V.bl
  | [], ns, vs, h, r => by
    simp only [Reps] at r
    have : ns = [] := by simpa using h.symm
    subst r this
    rfl
  | d :: ds, ns, vs, h, r => by
    simp only [Reps] at r
    obtain ⟨v, vr, rfl, r1, r2⟩ := r
    rw [List.mapM_cons] at h
    cases e1 : asBl d with
    | none => rw [e1] at h; simp at h
    | some k =>
      cases e2 : ds.mapM asBl with
      | none => rw [e1, e2] at h; simp at h
      | some pr =>
        rw [e1, e2] at h
        have h : k :: pr = ns := by simpa using h
        subst h
        have ed : d = .bl k := by cases d <;> simp [asBl] at e1; rw [e1]
        subst ed
        simp only [Rep] at r1
        rw [r1, mapM_bls e2 r2]; rfl
theorem mapM_strs {K : PySem.W.Frag} {F : Hp} : ∀ {ds : List D} {ns : List Str} {vs : List V}, ds.mapM asStr = some ns → Reps K F ds vs → vs = ns.map V.str
  | [], ns, vs, h, r => by
    simp only [Reps] at r
    have : ns = [] := by simpa using h.symm
    subst r this
    rfl
  | d :: ds, ns, vs, h, r => by
    simp only [Reps] at r
    obtain ⟨v, vr, rfl, r1, r2⟩ := r
    rw [List.mapM_cons] at h
    cases e1 : asStr d with
    | none => rw [e1] at h; simp at h
    | some k =>
      cases e2 : ds.mapM asStr with
      | none => rw [e1, e2] at h; simp at h
      | some pr =>
        rw [e1, e2] at h
        have h : k :: pr = ns := by simpa using h
        subst h
        have ed : d = .str k := by cases d <;> simp [asStr] at e1; rw [e1]
        subst ed
        simp only [Rep] at r1
        rw [r1, mapM_strs e2 r2]; rfl
theorem repks_keys {K : PySem.W.Frag} {F : Hp} : ∀ {ds : List (Str × D)} {vs : List (Key × V)}, RepKs K F ds vs → Reps K F (ds.map fun p => D.str p.1) (vs.map fun kv => kV kv.1)
  | [], _, h => by simp only [RepKs] at h; subst h; exact Reps.nil
  | (k, d) :: ds, _, h => by
    simp only [RepKs] at h
    obtain ⟨v, r, rfl, h1, h2⟩ := h
    exact Reps.cons rep_str (repks_keys h2)
theorem len_okB : ∃ r, CallR X (.builtin "len") r ∧ BiS X.K mg (biD .len) r := by
  refine ⟨_, call_len.or call_lenR, ?_⟩
  intro W σD σ F0 H0 F H Q ds vs x hs h
  match ds, hs, h with
  | [], _, h => simp only [biD] at h; exact h.elim
  | [d], hs, h =>
    obtain ⟨v, rfl, hz⟩ := seens1 hs
    clear hs
    cases d <;> simp only [biD] at h <;> try exact False.elim h
    case str z =>
      obtain ⟨g, h⟩ := h.grd
      rw [seen_str hz]
      exact .inl ⟨_, _, rfl, ⟨len_line g, rfl⟩, post_fz x h rep_int⟩
    case tup l =>
      obtain ⟨a, us, rfl, q1, q2, r⟩ := seen_tup x.h hz
      exact .inl ⟨_, us.length, rfl, .inr ⟨us, q2, rfl⟩, by rw [r.length]; exact post_fz x h rep_int⟩
    case lst l =>
      obtain ⟨a, us, rfl, q, r⟩ := seen_lst hz
      exact .inl ⟨_, us.length, rfl, .inl ⟨us, SqL.of q, rfl⟩, by rw [r.length]; exact post_fz x h rep_int⟩
    case dic l =>
      obtain ⟨a, us, rfl, q, r⟩ := seen_dic hz
      exact .inr ⟨a, us, rfl, q, by rw [r.length]; exact post_fz x h rep_int⟩
    case scr l =>
      obtain ⟨a, rfl, q⟩ := seen_scr x.h hz
      exact .inl ⟨_, l.length, rfl, .inl ⟨_, q, by simp⟩, post_fz x h rep_int⟩
  | d :: e :: r, _, h => cases d <;> simp only [biD] at h <;> exact h.elim
theorem abs_okB : ∃ r, CallR X (.builtin "abs") r ∧ BiS X.K mg (biD .abs) r := by
  refine ⟨_, call_abs, ?_⟩
  intro W σD σ F0 H0 F H Q ds vs x hs h
  match ds, hs, h with
  | [], _, h => simp only [biD] at h; exact h.elim
  | [d], hs, h =>
    obtain ⟨v, rfl, hz⟩ := seens1 hs
    clear hs
    cases d <;> simp only [biD] at h <;> try exact False.elim h
    exact ⟨_, by rw [seen_int hz], post_fz x h rep_int⟩
  | d :: e :: r, _, h => cases d <;> simp only [biD] at h <;> exact h.elim
theorem max_okB (hc : X.calm = true) : ∃ r, CallR X (.builtin "max") r ∧ BiS X.K mg (biD .max2) r := by
  refine ⟨_, call_max2 hc, ?_⟩
  intro W σD σ F0 H0 F H Q ds vs x hs h
  match ds, hs, h with
  | [], _, h => simp only [biD] at h; exact h.elim
  | [d], hs, h => cases d <;> simp only [biD] at h <;> exact h.elim
  | [d, e], hs, h =>
    obtain ⟨v, w, rfl, hz, ht⟩ := seens2 hs
    clear hs
    cases d <;> cases e <;> simp only [biD] at h <;> try exact False.elim h
    exact ⟨_, _, by rw [seen_int hz, seen_int ht], post_fz x h rep_int⟩
  | d :: e :: f :: r, _, h => cases d <;> cases e <;> simp only [biD] at h <;> exact h.elim
theorem min_okB (hc : X.calm = true) : ∃ r, CallR X (.builtin "min") r ∧ BiS X.K mg (biD .min2) r := by
  refine ⟨_, call_min2 hc, ?_⟩
  intro W σD σ F0 H0 F H Q ds vs x hs h
  match ds, hs, h with
  | [], _, h => simp only [biD] at h; exact h.elim
  | [d], hs, h => cases d <;> simp only [biD] at h <;> exact h.elim
  | [d, e], hs, h =>
    obtain ⟨v, w, rfl, hz, ht⟩ := seens2 hs
    clear hs
    cases d <;> cases e <;> simp only [biD] at h <;> try exact False.elim h
    exact ⟨_, _, by rw [seen_int hz, seen_int ht], post_fz x h rep_int⟩
  | d :: e :: f :: r, _, h => cases d <;> cases e <;> simp only [biD] at h <;> exact h.elim
theorem sum_okB (hc : X.calm = true) : ∃ r, CallR X (.builtin "sum") r ∧ BiS X.K mg (biD .sum) r := by
  refine ⟨_, cr_sum hc, ?_⟩
  intro W σD σ F0 H0 F H Q ds vs x hs h
  match ds, hs, h with
  | [], _, h => simp only [biD] at h; exact h.elim
  | [d], hs, h =>
    obtain ⟨v, rfl, hz⟩ := seens1 hs
    clear hs
    cases d <;> simp only [biD] at h <;> try exact False.elim h
    obtain ⟨ns, e, h⟩ := h.rOpt
    obtain ⟨a, us, rfl, q, r⟩ := seen_lst hz
    rw [mapM_ints e r] at q
    exact ⟨a, ns, rfl, SqL.of q, post_fz x h rep_int⟩
  | d :: e :: r, _, h => cases d <;> simp only [biD] at h <;> exact h.elim
theorem any_okB (hc : X.calm = true) : ∃ r, CallR X (.builtin "any") r ∧ BiS X.K mg (biD .any) r := by
  refine ⟨_, cr_any hc, ?_⟩
  intro W σD σ F0 H0 F H Q ds vs x hs h
  match ds, hs, h with
  | [], _, h => simp only [biD] at h; exact h.elim
  | [d], hs, h =>
    obtain ⟨v, rfl, hz⟩ := seens1 hs
    clear hs
    cases d <;> simp only [biD] at h <;> try exact False.elim h
    obtain ⟨ns, e, h⟩ := h.rOpt
    obtain ⟨a, us, rfl, q, r⟩ := seen_lst hz
    rw [mapM_bls e r] at q
    exact ⟨a, ns, rfl, SqL.of q, post_fz x h rep_bl⟩
  | d :: e :: r, _, h => cases d <;> simp only [biD] at h <;> exact h.elim
theorem all_okB (hc : X.calm = true) : ∃ r, CallR X (.builtin "all") r ∧ BiS X.K mg (biD .all) r := by
  refine ⟨_, cr_all hc, ?_⟩
  intro W σD σ F0 H0 F H Q ds vs x hs h
  match ds, hs, h with
  | [], _, h => simp only [biD] at h; exact h.elim
  | [d], hs, h =>
    obtain ⟨v, rfl, hz⟩ := seens1 hs
    clear hs
    cases d <;> simp only [biD] at h <;> try exact False.elim h
    obtain ⟨ns, e, h⟩ := h.rOpt
    obtain ⟨a, us, rfl, q, r⟩ := seen_lst hz
    rw [mapM_bls e r] at q
    exact ⟨a, ns, rfl, SqL.of q, post_fz x h rep_bl⟩
  | d :: e :: r, _, h => cases d <;> simp only [biD] at h <;> exact h.elim
theorem sorted_okB (hc : X.calm = true) : ∃ r, CallR X (.builtin "sorted") r ∧ BiS X.K mg (biD .sorted) r := by
  refine ⟨_, cr_sortL.or (cr_sortD hc), ?_⟩
  intro W σD σ F0 H0 F H Q ds vs x hs h
  match ds, hs, h with
  | [], _, h => simp only [biD] at h; exact h.elim
  | [d], hs, h =>
    obtain ⟨v, rfl, hz⟩ := seens1 hs
    clear hs
    cases d <;> simp only [biD] at h <;> try exact False.elim h
    case lst l =>
      obtain ⟨ns, e, h⟩ := h.rOpt
      obtain ⟨a, us, rfl, q, r⟩ := seen_lst hz
      rw [mapM_strs e r] at q
      exact .inl ⟨a, ns, rfl, SqL.of q, fun p hp => post_lst x h hp reps_of_strs⟩
    case dic l =>
      obtain ⟨a, us, rfl, q, r⟩ := seen_dic hz
      exact .inr ⟨a, us, l.map (·.1), rfl, q, r.keys, fun p hp => post_lst x h hp reps_of_strs⟩
  | d :: e :: r, _, h => cases d <;> simp only [biD] at h <;> exact h.elim
theorem list_okB (hc : X.calm = true) : ∃ r, CallR X (.type "list") r ∧ BiS X.K mg (biD .list) r := by
  refine ⟨_, call_list_of.or (call_listD hc), ?_⟩
  intro W σD σ F0 H0 F H Q ds vs x hs h
  match ds, hs, h with
  | [], _, h => simp only [biD] at h; exact h.elim
  | [d], hs, h =>
    obtain ⟨v, rfl, hz⟩ := seens1 hs
    clear hs
    cases d <;> simp only [biD] at h <;> try exact False.elim h
    case tup l =>
      obtain ⟨a, us, rfl, q1, q2, r⟩ := seen_tup x.h hz
      exact .inl ⟨a, us, rfl, .inr q2, fun p hp => post_lst x h hp r⟩
    case lst l =>
      obtain ⟨a, us, rfl, q, r⟩ := seen_lst hz
      exact .inl ⟨a, us, rfl, .inl (SqL.of q), fun p hp => post_lst x h hp r⟩
    case dic l =>
      obtain ⟨a, us, rfl, q, r⟩ := seen_dic hz
      exact .inr ⟨a, us, rfl, q, fun p hp => post_lst x h hp (repks_keys r)⟩
  | d :: e :: r, _, h => cases d <;> simp only [biD] at h <;> exact h.elim
theorem tuple_okB : ∃ r, CallR X (.type "tuple") r ∧ BiS X.K mg (biD .tuple) r := by
  refine ⟨_, call_tupleF, ?_⟩
  intro W σD σ F0 H0 F H Q ds vs x hs h
  match ds, hs, h with
  | [], _, h => simp only [biD] at h; exact h.elim
  | [d], hs, h =>
    obtain ⟨v, rfl, hz⟩ := seens1 hs
    clear hs
    cases d <;> simp only [biD] at h <;> try exact False.elim h
    case tup l =>
      obtain ⟨a, us, rfl, q1, q2, r⟩ := seen_tup x.h hz
      exact ⟨a, us, rfl, .inr ⟨q2, post_fz x h (by simp only [Rep]; exact ⟨a, us, rfl, q1, r⟩)⟩⟩
    case lst l =>
      obtain ⟨a, us, rfl, q, r⟩ := seen_lst hz
      exact ⟨a, us, rfl, .inl ⟨SqL.of q, fun p ob hp hb => post_tup x h hp hb r⟩⟩
  | d :: e :: r, _, h => cases d <;> simp only [biD] at h <;> exact h.elim
theorem dict_okB (hc : X.calm = true) : ∃ r, CallR X (.type "dict") r ∧ BiS X.K mg (biD .dict) r := by
  refine ⟨_, call_dictD.or (cr_dictT hc), ?_⟩
  intro W σD σ F0 H0 F H Q ds vs x hs h
  match ds, hs, h with
  | [], _, h => simp only [biD] at h; exact h.elim
  | [d], hs, h =>
    obtain ⟨v, rfl, hz⟩ := seens1 hs
    clear hs
    cases d <;> simp only [biD] at h <;> try exact False.elim h
    case tup l =>
      obtain ⟨ps, e, h⟩ := h.rOpt
      obtain ⟨g, h⟩ := h.grd
      simp only [Seen, Rep] at hz
      obtain ⟨a, us, rfl, q, r⟩ := hz
      exact .inr ⟨F, a, us, l, ps, rfl, x.h, q, r, e, fun p kws hp rk => post_dic x h hp rk⟩
    case dic l =>
      obtain ⟨a, us, rfl, q, r⟩ := seen_dic hz
      exact .inl ⟨a, us, rfl, q, fun p hp => post_dic x h hp r⟩
  | d :: e :: r, _, h => cases d <;> simp only [biD] at h <;> exact h.elim
theorem str_okB : ∃ r, CallR X (.type "str") r ∧ BiS X.K mg (biD .str) r := by
  refine ⟨_, call_str_int, ?_⟩
  intro W σD σ F0 H0 F H Q ds vs x hs h
  match ds, hs, h with
  | [], _, h => simp only [biD] at h; exact h.elim
  | [d], hs, h =>
    obtain ⟨v, rfl, hz⟩ := seens1 hs
    clear hs
    cases d <;> simp only [biD] at h <;> try exact False.elim h
    obtain ⟨g, h⟩ := h.grd
    exact ⟨_, by rw [seen_int hz], g, post_fz x h rep_str⟩
  | d :: e :: r, _, h => cases d <;> simp only [biD] at h <;> exact h.elim
theorem int_okB : ∃ r, CallR X (.type "int") r ∧ BiS X.K mg (biD .int) r := by
  refine ⟨_, call_int1, ?_⟩
  intro W σD σ F0 H0 F H Q ds vs x hs h
  match ds, hs, h with
  | [], _, h => simp only [biD] at h; exact h.elim
  | [d], hs, h =>
    obtain ⟨v, rfl, hz⟩ := seens1 hs
    clear hs
    cases d <;> simp only [biD] at h <;> try exact False.elim h
    case int i => exact .inl ⟨_, by rw [seen_int hz], post_fz x h rep_int⟩
    case bl b => exact .inr ⟨_, by rw [seen_bl hz], post_fz x h rep_int⟩
  | d :: e :: r, _, h => cases d <;> simp only [biD] at h <;> exact h.elim
end
end MP

namespace MP
open PySem PySem.Spec PyProof.Rows L2
/-! ### the text's side conditions -/
theorem star_of {e : Expr} (h : okX e = true) (es : List Expr) (env : Env) : starEach (e :: es) env = (false, eval e env) :: starEach es env := by
  cases e <;> first | rfl | (simp only [okX] at h; exact absurd h (by decide))
theorem base_of {o : Expr} (h : okX o = true) (a : Str) (env : Env) (whole : Sem Value) : attributeBase o a env whole = whole := by
  cases o with
  | Call f args kws pos =>
    cases f with
    | Name x p =>
      cases args with
      | nil =>
        cases kws with
        | nil => simp only [okX] at h; exact absurd h (by decide)
        | cons _ _ => rfl
      | cons _ _ => rfl
    | _ => rfl
  | _ => rfl
theorem behind_of {e : Expr} (h : notDS e = true) (op : CmpOp) : behindInMarks op e = false := by
  cases e <;> first | rfl | (simp only [notDS] at h; exact absurd h (by decide))
theorem plain_star {pos : Pos} : ∀ {es : List Expr} {env : Env}, (∀ e ∈ es, okX e = true) → (backTo pos (starEach es env)).any (·.1) = false
  | [], _, _ => rfl
  | e :: es, env, h => by
    rw [star_of (h e List.mem_cons_self) es env]
    show (false || (backTo pos (starEach es env)).any (·.1)) = false
    rw [plain_star fun x hx => h x (List.mem_cons_of_mem _ hx)]
    rfl
theorem chks_okX {C : SC} : ∀ {as : Es} {es : List Expr}, chks C as es = true → ∀ e ∈ es, okX e = true
  | .nil, [], _, e, he => by simp at he
  | .nil, _ :: _, h, _, _ => by simp [chks] at h
  | .cons a as, [], h, _, _ => by simp [chks] at h
  | .cons a as, x :: xs, h, e, he => by
    simp only [chks, Bool.and_eq_true] at h
    rcases List.mem_cons.mp he with rfl | he
    · exact h.1.1
    · exact chks_okX h.2 e he
/-! ### what a call's promise is -/
def spM (K : PySem.W.Frag) (mg : Str → Option Value) (n : Nat) (m : M) : Sp := fun vs H Q E => ∃ F ds, Sub F H ∧ Reps K F ds vs ∧ ds.length = n ∧ PostR K mg (fun c d _ H => E c d H) [] F H (m ds) (PE' K [] [] F H Q)
structure CallOk (P : Program) (w : World) (K : PySem.W.Frag) (mg : Str → Option Value) (base : Heap) (k : Nat) (f : Str) (n : Nat) (m : M) : Prop where
  ok : ∃ (fa : Addr) (fd : FuncData) (ps : List Str), mg f = some (.ref fa) ∧ PySem.W.keepIn K (.ref fa) = true ∧ FnOk P w K mg base (L2N.CX P w) k fa fd ps (spM K mg n m) ∧ Binds K fd ps []
/-- the built-in names stand free -/
def freeNames : List Str := ["len", "abs", "min", "max", "sum", "any", "all", "sorted", "list", "tuple", "dict", "str", "int", "bool", "isinstance", "range", "set"]
structure XOk (X : Cx) (C : SC) (k : Nat) (W : WX) : Prop where
  n : X.N = C.N
  sc : X.env.scope = C.sc
  nd : C.N.Nodup
  calm : X.calm = true
  room : Room k X.A
  tk : L2N.Takes X W
  fn : C.top = true → ∀ x, X.fn x = true
  free : ∀ x ∈ freeNames, X.mg x = none
section
variable {X : Cx} {C : SC} {k : Nat} {W : WX}
theorem XOk.glo (o : XOk X C k W) {x : Str} (h : gloB C.sc x = true) : Gl X x := by
  unfold gloB at h
  show X.env.kindOf x = some .globalImplicit
  unfold Env.kindOf
  rw [o.sc]
  split at h
  · assumption
  · cases h
theorem XOk.vis (o : XOk X C k W) {x : Str} (h : visB C.sc x = true) : Vis X.env.scope x := by
  unfold visB at h
  rw [o.sc]
  split at h
  · exact .inl (by assumption)
  · exact .inr (.inl (by assumption))
  · exact .inr (.inr (by assumption))
  · cases h
theorem XOk.loc (o : XOk X C k W) {x : Str} (h : locB C x = true) : Loc X.env.scope x ∧ (X.fn x = true ∨ X.env.scope.names.lookup x = some .local) := by
  unfold locB at h
  rw [o.sc]
  split at h
  · rename_i e; exact ⟨.inl e, .inr e⟩
  · rename_i e; exact ⟨.inr e, .inl (o.fn h x)⟩
  · cases h
theorem okN_of {x : Str} (h : okN x = true) : (x == ("__debug__" : Str)) = false ∧ (x == ("__classdict__" : Str)) = false ∧ x ≠ "__name__" := by
  unfold okN at h
  simp only [Bool.and_eq_true, beq_iff_eq, decide_eq_true_eq] at h
  exact ⟨h.1.1, h.1.2, h.2⟩
theorem bi_free (f : BI) : f.name ∈ freeNames := by cases f <;> decide
end
/-! ### calls -/
section
variable {K : PySem.W.Frag} {mg : Str → Option Value} {σD : SD} {σ : List (Option V)} {F H : Hp}
theorem VFs.reps : ∀ {ps : List DK} {vs : List V}, VFs K σD σ F ps vs → ps.any (fun p => isBo p.2) = false → Reps K F (ps.map (·.1)) vs
  | [], _, h, _ => h
  | (d, k) :: ps, _, h, n => by
    simp only [VFs] at h
    obtain ⟨v, r, rfl, h1, h2⟩ := h
    simp only [List.any_cons, Bool.or_eq_false_iff] at n
    refine Reps.cons ?_ (VFs.reps h2 n.2)
    cases k with
    | fz => exact h1
    | fr => exact h1
    | bo => exact absurd n.1 (by decide)
/-- an owned slot's address -/
def Owned (σD : SD) (σ : List (Option V)) (a : Addr) : Prop := ∃ (i : Nat) (d : D), σD[i]? = some (some (d, true)) ∧ σ[i]? = some (some (.ref a))
open Classical in
/-- what is frozen, and the owned objects -/
noncomputable def plus (σD : SD) (σ : List (Option V)) (F H : Hp) : Hp := fun a => if Owned σD σ a then H a else F a
open Classical in
noncomputable def minus (σD : SD) (σ : List (Option V)) (F : Hp) : Hp := fun a => if Owned σD σ a then none else F a
theorem own_none (s : SL K σD σ F H) {a : Addr} (o : Owned σD σ a) : F a = none ∧ ∃ d, Cell K F H d a := by
  obtain ⟨i, d, h1, h2⟩ := o
  obtain ⟨b, h3, h4, h5⟩ := s.ow i d h1
  rw [h2] at h3
  cases h3
  exact ⟨h4, d, h5⟩
theorem plus_sub (s : SL K σD σ F H) : Sub F (plus σD σ F H) ∧ Sub (plus σD σ F H) H := by
  refine ⟨fun a o q => ?_, fun a o q => ?_⟩
  · unfold plus
    split
    · exact s.sub _ _ q
    · exact q
  · unfold plus at q
    split at q
    · exact q
    · exact s.sub _ _ q
theorem VFs.reps_plus (s : SL K σD σ F H) : ∀ {ps : List DK} {vs : List V}, VFs K σD σ F ps vs → Reps K (plus σD σ F H) (ps.map (·.1)) vs
  | [], _, h => h
  | (d, k) :: ps, _, h => by
    simp only [VFs] at h
    obtain ⟨v, r, rfl, h1, h2⟩ := h
    refine Reps.cons ?_ (VFs.reps_plus s h2)
    cases k with
    | fz => exact Rep.mono (plus_sub s).1 _ _ h1
    | fr => exact Rep.mono (plus_sub s).1 _ _ h1
    | bo =>
      obtain ⟨i, e1, e2⟩ := h1
      obtain ⟨a, e3, e4, e5⟩ := s.ow i d e1
      rw [e2] at e3
      cases e3
      have hp : plus σD σ F H a = H a := by unfold plus; rw [if_pos ⟨i, d, e1, e2⟩]
      cases d <;> simp only [Cell] at e5
      · obtain ⟨vs, q, r⟩ := e5
        simp only [Rep]
        exact ⟨a, vs, rfl, by rw [hp]; exact q, Reps.mono (plus_sub s).1 _ _ r⟩
      · obtain ⟨vs, q, r⟩ := e5
        simp only [Rep]
        exact ⟨a, vs, rfl, .inl (by rw [hp]; exact q), RepKs.mono (plus_sub s).1 _ _ r⟩
theorem minus_ext (s : SL K σD σ F H) {F2 H2 : Hp} (e : Ext (plus σD σ F H) H F2 H2) : Ext F H (minus σD σ F2) H2 := by
  refine ⟨fun a o q => ?_, fun a o q => ?_, e.s, fun a o q => ?_⟩
  · unfold minus
    split
    · rename_i ow
      rw [(own_none s ow).1] at q; cases q
    · exact e.f _ _ ((plus_sub s).1 _ _ q)
  · unfold minus at q
    split at q
    · cases q
    · exact e.h _ _ q
  · unfold minus at q
    split at q
    · cases q
    · rename_i ow
      rcases e.n a o q with z | z
      · unfold plus at z; rw [if_neg ow] at z; exact .inl z
      · exact .inr z
mutual
theorem immut_minus (s : SL K σD σ F H) {F2 H2 : Hp} (e : Ext (plus σD σ F H) H F2 H2) : ∀ (d : D) (v : V), immut d = true → Rep K F2 d v → Rep K (minus σD σ F2) d v
  | .non, _, _, h => by simpa only [Rep] using h
  | .bl _, _, _, h => by simpa only [Rep] using h
  | .int _, _, _, h => by simpa only [Rep] using h
  | .str _, _, _, h => by simpa only [Rep] using h
  | .lst _, _, i, _ => by simp [immut] at i
  | .dic _, _, i, _ => by simp [immut] at i
  | .scr _, _, i, _ => by simp [immut] at i
  | .tup ds, _, i, h => by
    simp only [immut] at i
    simp only [Rep] at h ⊢
    obtain ⟨a, vs, rfl, ⟨o, q, hd⟩, r⟩ := h
    refine ⟨a, vs, rfl, ⟨o, ?_, hd⟩, immuts_minus s e ds vs i r⟩
    unfold minus
    rw [if_neg ?_]
    · exact q
    · intro ow
      obtain ⟨_, d, c⟩ := own_none s ow
      have q2 := e.h _ _ q
      cases d <;> simp only [Cell] at c
      · obtain ⟨us, q3, _⟩ := c; rw [e.s _ _ q3] at q2; cases q2
      · obtain ⟨us, q3, _⟩ := c; rw [e.s _ _ q3] at q2; cases q2
theorem immuts_minus (s : SL K σD σ F H) {F2 H2 : Hp} (e : Ext (plus σD σ F H) H F2 H2) : ∀ (d : List D) (v : List V), immuts d = true → Reps K F2 d v → Reps K (minus σD σ F2) d v
  | [], _, _, h => by simpa only [Reps] using h
  | d :: ds, _, i, h => by
    simp only [immuts, Bool.and_eq_true] at i
    simp only [Reps] at h
    obtain ⟨v, r, rfl, h1, h2⟩ := h
    exact Reps.cons (immut_minus s e d v i.1 h1) (immuts_minus s e ds r i.2 h2)
end
/-- the callee's promise from the call's own wish -/
theorem call_post {W : WX} {F0 H0 : Hp} {Q : VK} {m : M} {ps : List DK} {vs : List V} {n : Nat} (x : Ext F0 H0 F H) (s : SL K σD σ F H) (h : VFs K σD σ F ps vs) (hn : ps.length = n)
    (q : PostR K mg W σ F0 H0 (callD m ps) (PE' K σD σ F0 H0 Q)) : spM K mg n m vs H Q (fun c d H => W c d σ H) := by
  cases hb : ps.any (fun p => isBo p.2) with
  | false =>
    refine ⟨F, ps.map (·.1), s.sub, h.reps hb, by simpa using hn, ?_⟩
    unfold callD at q
    cases hm : m (ps.map (·.1)) with
    | stuck => rw [hm] at q; exact q.elim
    | err e =>
      rw [hm] at q
      have q : PostR K mg W σ F0 H0 (R.err e : R DK) (PE' K σD σ F0 H0 Q) := by
        cases e with
        | own c => exact q
        | own2 c a b => simpa [hb] using q
      exact fun F' H' cls dd e r => q F' H' cls dd (x.trans e) r
    | ok p =>
      obtain ⟨d, kk⟩ := p
      rw [hm] at q
      cases kk with
      | bo => exact q.elim
      | fz =>
        have q : PE' K σD σ F0 H0 Q (d, .fz) := by simpa [hb, PostR] using q
        exact fun F' H' v e r => q F' H' v (x.trans e) r
      | fr =>
        have q : PE' K σD σ F0 H0 Q (d, .fr) := by simpa [hb, PostR] using q
        exact fun F' H' v e r => q F' H' v (x.trans e) (by
          obtain ⟨a, e1, e2, e3, e4⟩ := r
          exact ⟨a, e1, e2, none_back x.s e3, e4⟩)
  | true =>
    refine ⟨plus σD σ F H, ps.map (·.1), (plus_sub s).2, h.reps_plus s, by simpa using hn, ?_⟩
    unfold callD at q
    cases hm : m (ps.map (·.1)) with
    | stuck => rw [hm] at q; exact q.elim
    | err e =>
      rw [hm] at q
      cases e with
      | own c => exact fun F' H' cls dd e r => q (minus σD σ F') H' cls dd (x.trans (minus_ext s e)) r
      | own2 c a b => simp only [hb, if_true] at q; exact q.elim
    | ok p =>
      obtain ⟨d, kk⟩ := p
      rw [hm] at q
      cases kk with
      | bo => exact q.elim
      | fr => simp only [hb, if_true] at q; exact q.elim
      | fz =>
        cases hi : immut d with
        | false => simp [hb, hi, PostR] at q
        | true =>
          have q : PE' K σD σ F0 H0 Q (d, .fz) := by simpa [hb, hi, PostR] using q
          exact fun F' H' v e r => q (minus σD σ F') H' v (x.trans (minus_ext s e)) (immut_minus s e d v hi r)
end
end MP

namespace MP
open PySem PySem.Spec PyProof.Rows L2
/-! ### targets -/
def gSlots : List Nat → TGs
  | [] => gNil
  | i :: is => gCons (gName i) (gSlots is)
def gTg (K : PySem.W.Frag) : Tg → TG
  | .nm i => gName i
  | .tp is => gTup K is.length (gSlots is)
section
variable {X : Cx} {C : SC} {k : Nat} {W : WX}
theorem pgs_ok (o : XOk X C k W) : ∀ {is : List Nat} {es : List Expr}, chkTgs C is es = true → PGs X es (gSlots is) ∧ (assignEach es X.env).length = es.length ∧ (assignEach es X.env).findIdx? (·.1) = none
  | [], [], _ => ⟨pgs_nil, rfl, rfl⟩
  | [], _ :: _, h => by simp [chkTgs] at h
  | i :: is, [], h => by simp [chkTgs] at h
  | i :: is, e :: es, h => by
    cases e with
    | Name x p =>
      simp only [chkTgs, Bool.and_eq_true, decide_eq_true_eq] at h
      obtain ⟨⟨h1, h2⟩, h3⟩ := h
      obtain ⟨g1, g2, g3⟩ := pgs_ok o h3
      obtain ⟨l1, l2⟩ := o.loc h2
      refine ⟨pgs_cons (pg_name (by rw [o.n]; exact o.nd) (by rw [o.n]; exact h1) l1 l2) g1 rfl, ?_, ?_⟩
      · show (_ :: assignEach es X.env).length = _
        rw [List.length_cons, g2, List.length_cons]
      · show ((false, assign (.Name x p) X.env) :: assignEach es X.env).findIdx? (·.1) = none
        rw [List.findIdx?_cons]
        simp only [Bool.false_eq_true, if_false, g3]
        rfl
    | _ => simp [chkTgs] at h
theorem pg_ok (o : XOk X C k W) {tg : Tg} {e : Expr} (h : chkTg C tg e = true) : PG X e (gTg X.K tg) := by
  cases tg with
  | nm i =>
    cases e with
    | Name x p =>
      simp only [chkTg, Bool.and_eq_true, decide_eq_true_eq] at h
      obtain ⟨l1, l2⟩ := o.loc h.2
      exact pg_name (by rw [o.n]; exact o.nd) (by rw [o.n]; exact h.1) l1 l2
    | _ => simp [chkTg] at h
  | tp is =>
    cases e with
    | Tuple es kk p =>
      simp only [chkTg, Bool.and_eq_true, decide_eq_true_eq] at h
      obtain ⟨g1, g2, g3⟩ := pgs_ok o h.1
      exact pg_tup o.calm g1 (by rw [g2, h.2]) g3
    | _ => simp [chkTg] at h
end
section
variable {K : PySem.W.Frag} {σD : SD} {σ : List (Option V)} {F H : Hp}
theorem SL.put (s : SL K σD σ F H) {d : D} {v : V} (r : Rep K F d v) (i : Nat) : SL K (σD.set i (some (d, false))) (σ.set i (some v)) F H where
  sub := s.sub
  fz := fun j e h => by
    by_cases hj : i = j
    · subst hj
      have hi : i < σD.length := by
        have := (List.getElem?_eq_some_iff.mp h).1
        simpa using this
      rw [List.getElem?_set_self hi] at h
      cases h
      exact ⟨v, by rw [List.getElem?_set_self (by rw [s.len]; exact hi)], r⟩
    · rw [List.getElem?_set_ne hj] at h ⊢
      exact s.fz j e h
  ow := fun j e h => by
    by_cases hj : i = j
    · subst hj
      have hi : i < σD.length := by
        have := (List.getElem?_eq_some_iff.mp h).1
        simpa using this
      rw [List.getElem?_set_self hi] at h
      cases h
    · rw [List.getElem?_set_ne hj] at h ⊢
      exact s.ow j e h
  dis := fun j l d e v h1 h2 h3 h4 => by
    have nj : i ≠ j := fun e => by
      subst e
      have hi : i < σD.length := by
        have := (List.getElem?_eq_some_iff.mp h1).1
        simpa using this
      rw [List.getElem?_set_self hi] at h1
      cases h1
    have nl : i ≠ l := fun e => by
      subst e
      have hi : i < σD.length := by
        have := (List.getElem?_eq_some_iff.mp h2).1
        simpa using this
      rw [List.getElem?_set_self hi] at h2
      cases h2
    rw [List.getElem?_set_ne nj] at h1 h3
    rw [List.getElem?_set_ne nl] at h2 h4
    exact s.dis j l d e v h1 h2 h3 h4
  len := by rw [List.length_set, List.length_set, s.len]
theorem SL.wipe1 (s : SL K σD σ F H) (i : Nat) : SL K (σD.set i none) (σ.set i none) F H where
  sub := s.sub
  fz := fun j e h => by
    by_cases hj : i = j
    · subst hj
      have hi : i < σD.length := by
        have := (List.getElem?_eq_some_iff.mp h).1
        simpa using this
      rw [List.getElem?_set_self hi] at h
      cases h
    · rw [List.getElem?_set_ne hj] at h ⊢
      exact s.fz j e h
  ow := fun j e h => by
    by_cases hj : i = j
    · subst hj
      have hi : i < σD.length := by
        have := (List.getElem?_eq_some_iff.mp h).1
        simpa using this
      rw [List.getElem?_set_self hi] at h
      cases h
    · rw [List.getElem?_set_ne hj] at h ⊢
      exact s.ow j e h
  dis := fun j l d e v h1 h2 h3 h4 => by
    have nj : i ≠ j := fun e => by
      subst e
      have hi : i < σD.length := by
        have := (List.getElem?_eq_some_iff.mp h1).1
        simpa using this
      rw [List.getElem?_set_self hi] at h1
      cases h1
    have nl : i ≠ l := fun e => by
      subst e
      have hi : i < σD.length := by
        have := (List.getElem?_eq_some_iff.mp h2).1
        simpa using this
      rw [List.getElem?_set_self hi] at h2
      cases h2
    rw [List.getElem?_set_ne nj] at h1 h3
    rw [List.getElem?_set_ne nl] at h2 h4
    exact s.dis j l d e v h1 h2 h3 h4
  len := by rw [List.length_set, List.length_set, s.len]
theorem SL.wipe (s : SL K σD σ F H) : ∀ vs : List Nat, SL K (wipeD σD vs) (wipe σ vs) F H
  | [] => s
  | v :: vs => (SL.wipe s vs).wipe1 v
theorem wipe_mem : ∀ {vs : List Nat} {σ : List (Option V)} {i : Nat}, i ∈ vs → i < σ.length → (L2.wipe σ vs)[i]? = some none
  | [], _, _, h, _ => by simp at h
  | v :: vs, σ, i, h, hl => by
    unfold L2.wipe
    by_cases e : v = i
    · subst e
      rw [List.getElem?_set_self (by rw [wipe_length]; exact hl)]
    · rw [List.getElem?_set_ne e]
      rcases List.mem_cons.mp h with z | z
      · exact absurd z.symm e
      · exact wipe_mem z hl
theorem wipe_get {vs : List Nat} {σ : List (Option V)} {i : Nat} : (L2.wipe σ vs)[i]? = if i ∈ vs then (if i < σ.length then some none else none) else σ[i]? := by
  by_cases h : i ∈ vs
  · rw [if_pos h]
    by_cases hl : i < σ.length
    · rw [if_pos hl]; exact wipe_mem h hl
    · rw [if_neg hl]; exact List.getElem?_eq_none (by rw [wipe_length]; omega)
  · rw [if_neg h]; exact wipe_out h
theorem wipe_same {vs : List Nat} {σ τ : List (Option V)} (hl : τ.length = σ.length) (h : ∀ i, i ∉ vs → τ[i]? = σ[i]?) : L2.wipe τ vs = L2.wipe σ vs := by
  apply List.ext_getElem?
  intro i
  rw [wipe_get, wipe_get]
  by_cases hi : i ∈ vs
  · rw [if_pos hi, if_pos hi, hl]
  · rw [if_neg hi, if_neg hi]; exact h i hi
theorem wipe_idem {vs : List Nat} {σ : List (Option V)} : L2.wipe (L2.wipe σ vs) vs = L2.wipe σ vs := wipe_same (wipe_length σ vs) fun i hi => wipe_out hi
theorem slots_ok : ∀ {is : List Nat} {ds : List D} {vs : List V} {σD σD2 : SD} {σ : List (Option V)} {Q : L2.St → Hp → Prop}, bindSlots σD is ds = .ok σD2 → SL K σD σ F H → Reps K F ds vs →
    (∀ σ2, SL K σD2 σ2 F H → σ2.length = σ.length → (∀ i, i ∉ is → σ2[i]? = σ[i]?) → Q σ2 H) → gSlots is vs σ H Q
  | [], [], _, _, _, σ, _, h, s, r, q => by
    simp only [Reps] at r
    cases h
    exact ⟨r, q σ s rfl fun _ _ => rfl⟩
  | [], _ :: _, _, _, _, _, _, h, _, _, _ => by simp [bindSlots] at h
  | _ :: _, [], _, _, _, _, _, h, _, _, _ => by simp [bindSlots] at h
  | i :: is, d :: ds, _, σD, σD2, σ, Q, h, s, r, q => by
    simp only [Reps] at r
    obtain ⟨v, vr, rfl, r1, r2⟩ := r
    simp only [bindSlots] at h
    refine ⟨v, vr, rfl, ?_⟩
    refine slots_ok h (s.put r1 i) r2 fun σ2 s2 hl hn => q σ2 s2 (by rw [hl, List.length_set]) fun j hj => ?_
    rw [hn j fun z => hj (List.mem_cons_of_mem _ z), List.getElem?_set_ne fun e => hj (by rw [e]; exact List.mem_cons_self)]
theorem tg_ok {tg : Tg} {d : D} {v : V} {σD2 : SD} {Q : L2.St → Hp → Prop} (h : bindTg tg σD d = .ok σD2) (s : SL K σD σ F H) (r : Rep K F d v)
    (q : ∀ σ2, SL K σD2 σ2 F H → σ2.length = σ.length → (∀ i, i ∉ tg.slots → σ2[i]? = σ[i]?) → Q σ2 H) : gTg K tg v σ H Q := by
  cases tg with
  | nm i =>
    simp only [bindTg] at h
    cases h
    exact q _ (s.put r i) (by rw [List.length_set]) fun j hj => by rw [List.getElem?_set_ne fun e => hj (by rw [e]; exact List.mem_cons_self)]
  | tp is =>
    cases d <;> simp only [bindTg] at h <;> try cases h
    rename_i ds
    simp only [Rep] at r
    obtain ⟨a, vs, rfl, tf, rr⟩ := r
    have hl : is.length = ds.length := by
      have : ∀ {is : List Nat} {ds : List D} {σD : SD}, bindSlots σD is ds = .ok σD2 → is.length = ds.length := by
        intro is
        induction is with
        | nil => intro ds σD h; cases ds with | nil => rfl | cons _ _ => simp [bindSlots] at h
        | cons i is ih => intro ds σD h; cases ds with | nil => simp [bindSlots] at h | cons d ds => simp only [bindSlots] at h; simp [ih h]
      exact this h
    exact ⟨a, vs, rfl, s.sub.sqt tf.sqt, by rw [rr.length, hl], slots_ok h s rr q⟩
end
/-! ### what is walked -/
def Walks (K : PySem.W.Frag) (J : L2.It) (F : Hp) (xs : List D) : Prop := ∀ i H, Sub F H → (xs.length ≤ i → J.stop i H) ∧ ∀ d, xs[i]? = some d → J.go i H ∧ ∀ x H', J.yld i H x H' → H' = H ∧ Rep K F d x
theorem Walks.mono {K : PySem.W.Frag} {J : L2.It} {F F' : Hp} {xs : List D} (w : Walks K J F xs) (s : Sub F F') : Walks K J F' xs := fun i H h => by
  obtain ⟨a, b⟩ := w i H (s.trans h)
  exact ⟨a, fun d e => ⟨(b d e).1, fun x H' y => ⟨((b d e).2 x H' y).1, Rep.mono s _ _ ((b d e).2 x H' y).2⟩⟩⟩
theorem walks_list {K : PySem.W.Frag} {F : Hp} {a : Addr} {vs : List V} {ds : List D} (h : F a = some (.lst vs)) (r : Reps K F ds vs) : Walks K (Itl K a) F ds := fun i H s =>
  ⟨fun hi => ⟨vs, SqL.of (s _ _ h), by rw [r.length]; exact hi⟩, fun d e => by
    obtain ⟨v, e1, e2⟩ := r.get e
    refine ⟨⟨vs, v, SqL.of (s _ _ h), e1⟩, fun x H' y => ⟨y.1, ?_⟩⟩
    have := y.2 vs (SqL.of (s _ _ h))
    rw [e1] at this
    cases this
    exact e2⟩
theorem walks_tup {K : PySem.W.Frag} {F : Hp} {a : Addr} {vs : List V} {ds : List D} (h : TupF F a vs) (r : Reps K F ds vs) : Walks K (Itt K a) F ds := fun i H s =>
  ⟨fun hi => ⟨vs, s.sqt h.sqt, by rw [r.length]; exact hi⟩, fun d e => by
    obtain ⟨v, e1, e2⟩ := r.get e
    refine ⟨⟨vs, v, s.sqt h.sqt, e1⟩, fun x H' y => ⟨y.1, ?_⟩⟩
    have := y.2 vs (s.sqt h.sqt)
    rw [e1] at this
    cases this
    exact e2⟩
theorem range_get : ∀ {n : Nat} {lo : Int} {i : Nat} {d : D}, (rangeD lo n)[i]? = some d → i < n ∧ d = .int (lo + i)
  | 0, _, _, _, h => by simp [rangeD] at h
  | n + 1, lo, 0, d, h => by
    simp only [rangeD, List.getElem?_cons_zero, Option.some.injEq] at h
    exact ⟨by omega, by rw [← h]; simp⟩
  | n + 1, lo, i + 1, d, h => by
    simp only [rangeD, List.getElem?_cons_succ] at h
    obtain ⟨a, b⟩ := range_get h
    exact ⟨by omega, by rw [b]; congr 1; push_cast; omega⟩
theorem range_len : ∀ {n : Nat} {lo : Int}, (rangeD lo n).length = n
  | 0, _ => rfl
  | n + 1, lo => by simp [rangeD, range_len]
theorem walks_range {K : PySem.W.Frag} {F : Hp} (lo : Int) (n : Nat) : Walks K (Itr lo n) F (rangeD lo n) := fun i H s =>
  ⟨fun hi => by rw [range_len] at hi; exact hi, fun d e => by
    obtain ⟨a, rfl⟩ := range_get e
    exact ⟨a, fun x H' y => ⟨y.1, by rw [y.2]; exact rep_int⟩⟩⟩
theorem walks_str {K : PySem.W.Frag} {F : Hp} (z : Str) : Walks K (Its z) F (z.cps.toList.map fun c => D.str ⟨#[c]⟩) := fun i H s =>
  ⟨fun hi => by show z.cps.size ≤ i; simpa using hi, fun d e => by
    rw [List.getElem?_map] at e
    cases o : z.cps.toList[i]? with
    | none => rw [o] at e; cases e
    | some c =>
      rw [o] at e
      cases e
      have hi := (List.getElem?_eq_some_iff.mp o).1
      refine ⟨by show i < z.cps.size; simpa using hi, fun x H' y => ⟨y.1, ?_⟩⟩
      obtain ⟨c', e1, rfl⟩ := y.2
      rw [← Array.getElem?_toList, o] at e1
      cases e1
      exact rep_str⟩
section
variable (K : PySem.W.Frag) (mg : Str → Option Value) (W : WX)
def denIt (it : It) : TI := fun σ H R => ∃ σD F, SL K σD σ F H ∧ PostR K mg W σ F H (evIt it σD) fun xs => ∀ F' H' J, Ext F H F' H' → Walks K J F' xs → R J H'
end
theorem _root_.L2.PI.imp {X : Cx} {tg e : Expr} {t t' : TI} (h : PI X tg e t) (w : ∀ σ H Q, t' σ H Q → t σ H Q) : PI X tg e t' := ⟨fun pins s σ H Q I q => h.run pins s σ H Q I (w σ H Q q)⟩
theorem _root_.L2.PI.or {X : Cx} {tg e : Expr} {t t' : TI} (h : PI X tg e t) (h' : PI X tg e t') : PI X tg e (fun σ H Q => t σ H Q ∨ t' σ H Q) := ⟨fun pins s σ H Q I q => q.elim (h.run pins s σ H Q I) (h'.run pins s σ H Q I)⟩
section
variable {X : Cx} {mg : Str → Option Value} {W : WX}
theorem pi_seq {e : E} {tg x : Expr} (h : PE X x (den X.K mg W e)) : PI X tg x (denIt X.K mg W (.seq e)) := by
  refine ((pi_list (tg := tg) h).or ((pi_tup h).or (pi_str h))).imp fun σ H RR hh => ?_
  obtain ⟨σD, F, sl, hp⟩ := hh
  simp only [evIt] at hp
  have go : ∀ {P : V → Hp → Prop}, (∀ p F1 H1 v ds, ev e σD = .ok p → Ext F H F1 H1 → Rep X.K F1 p.1 v → itemsD p.1 = .ok ds → (∀ F' H' J, Ext F H F' H' → Walks X.K J F' ds → RR J H') → P v H1) → den X.K mg W e σ H P := by
    intro P g
    refine den_in (Ext.refl sl.sub) sl hp fun p F1 H1 v ep e1 x1 s1 v1 h1 => ?_
    obtain ⟨d, kk⟩ := p
    cases kk with
    | bo => exact h1.elim
    | fz =>
      simp only [notBo, MP.R.bind_ok] at h1
      cases ed : itemsD d with
      | ok ds => rw [ed] at h1; exact g _ F1 H1 v ds ep e1 v1 ed h1
      | err y => cases d <;> simp [itemsD] at ed
      | stuck => rw [ed] at h1; exact h1.elim
    | fr =>
      simp only [notBo, MP.R.bind_ok] at h1
      cases ed : itemsD d with
      | ok ds => rw [ed] at h1; exact g _ F1 H1 v ds ep e1 v1 ed h1
      | err y => cases d <;> simp [itemsD] at ed
      | stuck => rw [ed] at h1; exact h1.elim
  by_cases c1 : ∃ ds k, ev e σD = .ok (.tup ds, k)
  · obtain ⟨ds, k, ec⟩ := c1
    refine .inr (.inl (go fun p F1 H1 v xs ep x1 r it w => ?_))
    rw [ec] at ep
    cases ep
    simp only [itemsD] at it
    cases it
    simp only [Rep] at r
    obtain ⟨a, vs, rfl, tf, rr⟩ := r
    exact ⟨a, rfl, ⟨vs, x1.h.sqt tf.sqt⟩, w F1 H1 _ x1 (walks_tup tf rr)⟩
  · by_cases c2 : ∃ z k, ev e σD = .ok (.str z, k)
    · obtain ⟨z, k, ec⟩ := c2
      refine .inr (.inr (go fun p F1 H1 v xs ep x1 r it w => ?_))
      rw [ec] at ep
      cases ep
      simp only [itemsD] at it
      cases it
      simp only [Rep] at r
      exact ⟨z, r, w F1 H1 _ x1 (walks_str z)⟩
    · refine .inl (go fun p F1 H1 v xs ep x1 r it w => ?_)
      obtain ⟨d, k⟩ := p
      cases d <;> simp only [itemsD] at it <;> try cases it
      · exact absurd ⟨_, _, ep⟩ c2
      · exact absurd ⟨_, _, ep⟩ c1
      · simp only [Rep] at r
        obtain ⟨a, vs, rfl, tf, rr⟩ := r
        exact ⟨a, rfl, ⟨vs, SqL.of (x1.h _ _ tf)⟩, w F1 H1 _ x1 (walks_list tf rr)⟩
end
end MP

namespace MP
open PySem PySem.Spec PyProof.Rows L2
def W0 : WX := fun _ _ _ _ => False
section
variable (K : PySem.W.Frag) (mg : Str → Option Value)
def denO : Eo → TT
  | .no => tYes
  | .yes e => denT K mg W0 e
end
section
variable {K : PySem.W.Frag} {mg : Str → Option Value} {W : WX} {σD : SD} {σ : List (Option V)} {F0 H0 F H F1 H1 : Hp} {Q : VK}
theorem ext_put {D : Addr} {o : HO} (x : Ext F H F1 H1) (f : F1 D = none) (h : H D = none) : Ext F H F1 (upd H1 D o) :=
  ⟨x.f, fun a u q => by rw [upd_ne (ne_of_none q f)]; exact x.h _ _ q, fun a u q => by rw [upd_ne (ne_of_none q h)]; exact x.s _ _ q, x.n⟩
theorem denO_ok {c : Eo} {k : Bool} {T : Bool → Hp → Prop} (e : evo c σD = .ok k) (s : SL K σD σ F H) (q : ∀ F3 H3, Ext F H F3 H3 → T k H3) : denO K mg c σ H T := by
  cases c with
  | no =>
    simp only [evo] at e
    cases e
    exact q F H (Ext.refl s.sub)
  | yes a =>
    simp only [evo] at e
    refine ⟨σD, F, s, ?_⟩
    rw [e]
    exact fun F' H' x => q F' H' x
theorem lc_read {elt : E} {tg : Tg} {own : List (Str × Nat)} {it : It} {c : Eo} (hin : tgIn tg own = true) (hh : den K mg W (.lc elt tg own it c) σ H Q) :
    tLc (denIt K mg W it) (gTg K tg) (denO K mg c) (den K mg W0 elt) (own.map (·.2)) σ H Q := by
  obtain ⟨σD, F, sl, h⟩ := hh
  simp only [ev] at h
  refine ⟨σD, F, sl, PostR.bind_ok h (fun xs _ hx F1 H1 J e1 w => ?_) (Ext.refl sl.sub)⟩
  obtain ⟨g, hx⟩ := hx.grd
  generalize hstep : (fun x => (bindTg tg (wipeD σD (own.map (·.2))) x).bind fun σ2 =>
      (evo c σ2).bind fun k => if k then (ev elt σ2).bind fun p => (notBo p).bind fun d => MP.R.ok (some d) else .ok none) = step at hx
  cases er0 : evItems step xs with
  | err y => rw [er0] at hx; exact hx.elim
  | stuck => rw [er0] at hx; exact hx.elim
  | ok ds =>
    rw [er0] at hx
    have hx : PE' K σD σ F H Q (.lst ds, .fr) := hx
    intro D hD
    refine ⟨fun i m Hc => m = xs.length - i ∧ i ≤ xs.length ∧ ∃ F2 acc accV rest, Ext F1 H1 F2 Hc ∧ F2 D = none ∧ Hc D = some (.lst accV) ∧ Reps K F2 acc accV ∧ evItems step (xs.drop i) = .ok rest ∧ ds = acc ++ rest ∧ accV.length ≤ i,
      ⟨_, rfl, Nat.zero_le _, F1, [], [], ds, ext_put (Ext.refl e1.h) (sub_none e1.h hD) hD, sub_none e1.h hD, upd_same, Reps.nil, er0, rfl, Nat.le_refl _⟩, ?_⟩
    rintro i m Hc ⟨rfl, hi, F2, acc, accV, rest, x2, f2, hD2, rr, er, ea, hal⟩
    obtain ⟨w1, w2⟩ := w i Hc (x2.f.trans x2.h)
    by_cases hlt : i < xs.length
    · obtain ⟨wg, wy⟩ := w2 xs[i] (List.getElem?_eq_getElem hlt)
      refine .inr ⟨wg, fun Hn => ∃ F2 acc accV rest, Ext F1 H1 F2 Hn ∧ F2 D = none ∧ Hn D = some (.lst accV) ∧ Reps K F2 acc accV ∧ evItems step (xs.drop (i + 1)) = .ok rest ∧ ds = acc ++ rest ∧ accV.length ≤ i + 1,
        fun Hn p => ⟨xs.length - (i + 1), by omega, rfl, hlt, p⟩, fun x Hy y => ?_⟩
      obtain ⟨rfl, rx⟩ := wy x Hy y
      rw [List.drop_eq_getElem_cons hlt] at er
      simp only [evItems] at er
      cases es : step xs[i] with
      | err _ => rw [es] at er; cases er
      | stuck => rw [es] at er; cases er
      | ok o =>
        rw [es] at er
        simp only [MP.R.bind_ok] at er
        cases er2 : evItems step (xs.drop (i + 1)) with
        | err _ => rw [er2] at er; cases er
        | stuck => rw [er2] at er; cases er
        | ok r2 =>
          rw [er2] at er
          have er : optCons o r2 = rest := by simpa using er
          rw [← hstep] at es
          simp only at es
          have slc := (sl.ext (e1.trans x2)).wipe (own.map (·.2))
          cases eb : bindTg tg (wipeD σD (own.map (·.2))) xs[i] with
          | err _ => rw [eb] at es; cases es
          | stuck => rw [eb] at es; cases es
          | ok σ2D =>
            rw [eb] at es
            simp only [MP.R.bind_ok] at es
            cases ec : evo c σ2D with
            | err _ => rw [ec] at es; cases es
            | stuck => rw [ec] at es; cases es
            | ok k =>
              rw [ec] at es
              simp only [MP.R.bind_ok] at es
              refine tg_ok eb slc (Rep.mono x2.f _ _ rx) fun σ2 s2 hl hn => ?_
              have hw : L2.wipe σ2 (own.map (·.2)) = L2.wipe σ (own.map (·.2)) := by
                refine (wipe_same hl fun j hj => hn j fun z => hj ?_).trans wipe_idem
                unfold tgIn at hin
                rw [List.all_eq_true] at hin
                simpa using hin j z
              refine ⟨hw, denO_ok ec s2 fun F3 H3 x3 => ?_⟩
              cases k with
              | false =>
                simp only [Bool.false_eq_true, if_false] at es ⊢
                cases es
                simp only [optCons] at er
                subst er
                exact ⟨F3, acc, accV, r2, x2.trans x3, x3.fresh f2 ⟨_, hD2⟩, x3.s _ _ hD2, Reps.mono x3.f _ _ rr, rfl, ea, by omega⟩
              | true =>
                simp only [if_true] at es ⊢
                cases ep : ev elt σ2D with
                | err _ => rw [ep] at es; cases es
                | stuck => rw [ep] at es; cases es
                | ok p =>
                  rw [ep] at es
                  simp only [MP.R.bind_ok] at es
                  obtain ⟨d, kk⟩ := p
                  refine ⟨σ2D, F3, s2.ext x3, ?_⟩
                  rw [ep]
                  intro F4 H4 v x4 vr
                  obtain ⟨F5, x5, s5, vf⟩ := vr.frozen x4
                  have hd : Rep K F5 d v ∧ o = some d := by
                    cases kk with
                    | bo => simp only [notBo, MP.R.bind_stuck] at es; cases es
                    | fz => simp only [notBo, MP.R.bind_ok] at es; cases es; exact ⟨vf, rfl⟩
                    | fr => simp only [notBo, MP.R.bind_ok] at es; cases es; exact ⟨vf, rfl⟩
                  obtain ⟨rd, rfl⟩ := hd
                  simp only [optCons] at er
                  subst er
                  have x35 := x3.trans x5
                  have f5 := x35.fresh f2 ⟨_, hD2⟩
                  refine ⟨accV, x35.s _ _ hD2, by rw [sizeLine_eq]; omega, F5, acc ++ [d], accV ++ [v], r2, ext_put (x2.trans x35) f5 hD, f5, upd_same, (Reps.mono x35.f _ _ rr).append (Reps.cons rd Reps.nil), rfl, by rw [ea]; simp, by rw [List.length_append, List.length_singleton]; omega⟩
    · have e : i = xs.length := by omega
      subst e
      rw [List.drop_length] at er
      simp only [evItems] at er
      cases er
      rw [List.append_nil] at ea
      subst ea
      exact .inl ⟨w1 (Nat.le_refl _), hx F2 Hc (.ref D) (e1.trans x2) ⟨D, rfl, f2, none_back e1.s hD, accV, hD2, rr⟩⟩
/-! ### the pieces as implications between readings -/
theorem op_imp {e a b : E} {f : D → D → R DK} {r : R2} (hr : OpS K mg f r) (he : ∀ σ, ev e σ = (ev a σ).bind fun p => (ev b σ).bind fun q => f p.1 q.1) (hh : den K mg W e σ H Q) : tOp r (den K mg W a) (den K mg W b) σ H Q := by
  obtain ⟨σD, F, sl, h⟩ := hh
  rw [he] at h
  refine den_in (Ext.refl sl.sub) sl h fun p F1 H1 v _ e1 x1 s1 v1 h1 => ?_
  refine den_in x1 s1 h1 fun q F2 H2 u _ e2 x2 s2 v2 h2 => ?_
  exact hr x2 ((v1.ext e2.f).seen s2) (v2.seen s2) h2
theorem asTest_ok {p : DK} {b : Bool} (h : asTest p = .ok b) : p.1 = .bl b := by
  obtain ⟨d, k⟩ := p
  cases d <;> simp [asTest] at h
  rw [h]
theorem asTest_err {p : DK} {y : Exn} : asTest p ≠ .err y := by
  obtain ⟨d, k⟩ := p
  cases d <;> simp [asTest]
theorem post_test {β : Type} {p : DK} {f : Bool → R β} {P : β → Prop} (h : PostR K mg W σ F0 H0 ((asTest p).bind f) P) : ∃ b, p.1 = .bl b ∧ PostR K mg W σ F0 H0 (f b) P := by
  cases e : asTest p with
  | ok b => rw [e] at h; exact ⟨b, asTest_ok e, h⟩
  | err y => exact absurd e asTest_err
  | stuck => rw [e] at h; exact h.elim
theorem test_imp {e : E} {T : Bool → Hp → Prop} (hh : denT K mg W e σ H T) : den K mg W e σ H fun x H' => ∃ k, x = .bl k ∧ T k H' := by
  obtain ⟨σD, F, sl, h⟩ := hh
  refine den_in (Ext.refl sl.sub) sl h fun p F1 H1 v _ e1 x1 s1 v1 h1 => ?_
  cases e : asTest p with
  | ok b =>
    rw [e] at h1
    have hv := v1.seen s1
    rw [asTest_ok e] at hv
    exact ⟨b, seen_bl hv, h1 F1 H1 x1⟩
  | err y => exact absurd e asTest_err
  | stuck => rw [e] at h1; exact h1.elim
theorem chain_imp {o o' : CO} {a b c : E} {r r' : R2} (hr : OpS K mg (cmpD o) r) (hr' : OpS K mg (cmpD o') r') (hh : den K mg W (.chain o o' a b c) σ H Q) : tChain r r' (den K mg W a) (den K mg W b) (den K mg W c) σ H Q := by
  obtain ⟨σD, F, sl, h⟩ := hh
  simp only [ev] at h
  refine den_in (Ext.refl sl.sub) sl h fun p F1 H1 v _ e1 x1 s1 v1 h1 => ?_
  refine den_in x1 s1 h1 fun q F2 H2 u _ e2 x2 s2 v2 h2 => ?_
  have v1' := v1.ext e2.f
  -- the first comparison's answer
  have key : ∀ {t : DK}, cmpD o p.1 q.1 = .ok t → PostR K mg W σ F2 H2 (cmpD o p.1 q.1) (PE' K σD σ F2 H2 fun z H3 => ∃ k, z = .bl k ∧ (if k = true then den K mg W c σ H3 fun w' H4 => r' u w' H4 Q else Q (.bl false) H3)) := by
    intro t et
    rw [et] at h2 ⊢
    simp only [MP.R.bind_ok] at h2
    obtain ⟨k, ek, h3⟩ := post_test h2
    intro F3 H3 z x3 vr
    obtain ⟨F4, x4, s4, vf⟩ := vr.frozen x3
    have sl4 := s2.ext x4
    have hz := vf.seen sl4
    rw [ek] at hz
    refine ⟨k, seen_bl hz, ?_⟩
    cases k with
    | false =>
      simp only [Bool.false_eq_true, if_false] at h3 ⊢
      exact post_fz (x2.trans x4) h3 rep_bl
    | true =>
      simp only [if_true] at h3 ⊢
      refine den_in (x2.trans x4) sl4 h3 fun r5 F5 H5 w' _ e5 x5 s5 v5 h5 => ?_
      exact hr' x5 ((v2.ext (x4.f.trans e5.f)).seen s5) (v5.seen s5) h5
  cases et : cmpD o p.1 q.1 with
  | ok t => exact hr (Ext.refl s2.sub) (v1'.seen s2) (v2.seen s2) (key et)
  | err y =>
    rw [et] at h2
    refine hr (W := W) (σD := σD) (σ := σ) (Ext.refl s2.sub) (v1'.seen s2) (v2.seen s2) ?_
    rw [et]
    exact fun F' H' cls dd e r => h2 F' H' cls dd (x2.trans e) r
  | stuck => rw [et] at h2; exact h2.elim
theorem and_imp {a b : E} (hh : den K mg W (.and a b) σ H Q) : tAndV (den K mg W a) (den K mg W b) σ H Q := by
  obtain ⟨σD, F, sl, h⟩ := hh
  simp only [ev] at h
  refine den_in (Ext.refl sl.sub) sl h fun p F1 H1 v _ e1 x1 s1 v1 h1 => ?_
  obtain ⟨k, ek, h2⟩ := post_test h1
  have hv := v1.seen s1
  rw [ek] at hv
  refine ⟨k, seen_bl hv, ?_⟩
  cases k with
  | false =>
    simp only [Bool.false_eq_true, if_false] at h2 ⊢
    exact post_fz x1 h2 rep_bl
  | true =>
    simp only [if_true] at h2 ⊢
    refine den_in x1 s1 h2 fun q F2 H2 u _ e2 x2 s2 v2 h3 => ?_
    obtain ⟨l, el, h4⟩ := post_test h3
    have hu := v2.seen s2
    rw [el] at hu
    rw [seen_bl hu]
    exact post_fz x2 h4 rep_bl
theorem or_imp {a b : E} (hh : den K mg W (.or a b) σ H Q) : tOrV (den K mg W a) (den K mg W b) σ H Q := by
  obtain ⟨σD, F, sl, h⟩ := hh
  simp only [ev] at h
  refine den_in (Ext.refl sl.sub) sl h fun p F1 H1 v _ e1 x1 s1 v1 h1 => ?_
  obtain ⟨k, ek, h2⟩ := post_test h1
  have hv := v1.seen s1
  rw [ek] at hv
  refine ⟨k, seen_bl hv, ?_⟩
  cases k with
  | true =>
    simp only [if_true] at h2 ⊢
    exact post_fz x1 h2 rep_bl
  | false =>
    simp only [Bool.false_eq_true, if_false] at h2 ⊢
    refine den_in x1 s1 h2 fun q F2 H2 u _ e2 x2 s2 v2 h3 => ?_
    obtain ⟨l, el, h4⟩ := post_test h3
    have hu := v2.seen s2
    rw [el] at hu
    rw [seen_bl hu]
    exact post_fz x2 h4 rep_bl
theorem not_imp {a : E} (hh : den K mg W (.not a) σ H Q) : tNotV (den K mg W a) σ H Q := by
  obtain ⟨σD, F, sl, h⟩ := hh
  simp only [ev] at h
  refine den_in (Ext.refl sl.sub) sl h fun p F1 H1 v _ e1 x1 s1 v1 h1 => ?_
  obtain ⟨k, ek, h2⟩ := post_test h1
  have hv := v1.seen s1
  rw [ek] at hv
  exact ⟨k, seen_bl hv, post_fz x1 h2 rep_bl⟩
theorem andT_imp {a b : E} {T : Bool → Hp → Prop} (hh : denT K mg W (.and a b) σ H T) : tAnd (denT K mg W a) (denT K mg W b) σ H T := by
  obtain ⟨σD, F, sl, h⟩ := hh
  have e : (ev (.and a b) σD).bind asTest = ((ev a σD).bind asTest).bind fun k => if k then (ev b σD).bind asTest else .ok false := by
    simp only [ev, MP.R.bind_assoc]
    congr 1; funext p; congr 1; funext k
    cases k
    · rfl
    · simp only [if_true, MP.R.bind_assoc]
      congr 1; funext q
      cases asTest q <;> rfl
  rw [e] at h
  refine denT_in (Ext.refl sl.sub) sl h fun k F1 H1 _ e1 x1 s1 h1 => ?_
  cases k with
  | false => exact h1 F1 H1 x1
  | true =>
    simp only [if_true] at h1 ⊢
    refine ⟨σD, F1, s1, ?_⟩
    cases eb : (ev b σD).bind asTest with
    | ok l => rw [eb] at h1; exact fun F' H' x => h1 F' H' (x1.trans x)
    | err y => rw [eb] at h1; exact fun F' H' cls dd x r => h1 F' H' cls dd (x1.trans x) r
    | stuck => rw [eb] at h1; exact h1
theorem orT_imp {a b : E} {T : Bool → Hp → Prop} (hh : denT K mg W (.or a b) σ H T) : tOr (denT K mg W a) (denT K mg W b) σ H T := by
  obtain ⟨σD, F, sl, h⟩ := hh
  have e : (ev (.or a b) σD).bind asTest = ((ev a σD).bind asTest).bind fun k => if k then .ok true else (ev b σD).bind asTest := by
    simp only [ev, MP.R.bind_assoc]
    congr 1; funext p; congr 1; funext k
    cases k
    · simp only [Bool.false_eq_true, if_false, MP.R.bind_assoc]
      congr 1; funext q
      cases asTest q <;> rfl
    · rfl
  rw [e] at h
  refine denT_in (Ext.refl sl.sub) sl h fun k F1 H1 _ e1 x1 s1 h1 => ?_
  cases k with
  | true => exact h1 F1 H1 x1
  | false =>
    simp only [Bool.false_eq_true, if_false] at h1 ⊢
    refine ⟨σD, F1, s1, ?_⟩
    cases eb : (ev b σD).bind asTest with
    | ok l => rw [eb] at h1; exact fun F' H' x => h1 F' H' (x1.trans x)
    | err y => rw [eb] at h1; exact fun F' H' cls dd x r => h1 F' H' cls dd (x1.trans x) r
    | stuck => rw [eb] at h1; exact h1
theorem notT_imp {a : E} {T : Bool → Hp → Prop} (hh : denT K mg W (.not a) σ H T) : tNot (denT K mg W a) σ H T := by
  obtain ⟨σD, F, sl, h⟩ := hh
  have e : (ev (.not a) σD).bind asTest = ((ev a σD).bind asTest).bind fun k => .ok (!k) := by
    simp only [ev, MP.R.bind_assoc]
    congr 1
  rw [e] at h
  refine denT_in (Ext.refl sl.sub) sl h fun k F1 H1 _ e1 x1 s1 h1 => ?_
  exact h1 F1 H1 x1
theorem notBo_ok {p : DK} {β : Type} {f : D → R β} {P : β → Prop} (h : PostR K mg W σ F0 H0 ((notBo p).bind f) P) (v1 : VF K σD σ F p.1 p.2 v) : Rep K F p.1 v ∧ PostR K mg W σ F0 H0 (f p.1) P := by
  obtain ⟨d, kk⟩ := p
  cases kk with
  | bo => exact h.elim
  | fz => exact ⟨v1, h⟩
  | fr => exact ⟨v1, h⟩
theorem notBos_ok {β : Type} {P : β → Prop} : ∀ {ps : List DK} {f : List D → R β} {vs : List V}, PostR K mg W σ F0 H0 ((notBos ps).bind f) P → VFs K σD σ F ps vs → ∃ ds, Reps K F ds vs ∧ PostR K mg W σ F0 H0 (f ds) P
  | [], f, vs, h, v => by
    simp only [VFs] at v
    subst v
    exact ⟨[], Reps.nil, h⟩
  | p :: ps, f, vs, h, v => by
    simp only [VFs] at v
    obtain ⟨v, r, rfl, h1, h2⟩ := v
    simp only [notBos, MP.R.bind_assoc] at h
    obtain ⟨r1, h⟩ := notBo_ok h h1
    obtain ⟨ds, r2, h⟩ := notBos_ok (f := fun ds => f (p.1 :: ds)) h h2
    exact ⟨p.1 :: ds, Reps.cons r1 r2, h⟩
end
end MP

/-! sets of texts: towards sorted(set(texts)) -/
namespace MPS
open PySem PySem.Spec PyProof.Rows L2 PySem.Froz
/-- the set at a holds the texts l, its table in order -/
def TxR (P : Program) (w : World) (h : Heap) (a : Addr) (l : List Str) : Prop := ∃ D : PySem.Froz.SD, h.get? a = some (sObj "set" D) ∧ TxOk P w D l ∧ Ris D.2.2.place.toList ∧ (w.params.followText "set-order" = true ∨ D.2.2.led = true)
theorem TxR.keep {P : Program} {w : World} {h h' : Heap} {a : Addr} {l : List Str} (R : TxR P w h a l) (k : ∀ o, h.get? a = some o → h'.get? a = some o) : TxR P w h' a l := by
  obtain ⟨D, g, r⟩ := R
  exact ⟨D, k _ g, r⟩
theorem tail_tab {ep : Nat} {es : Array (Int × Value)} {t : SetTable} {d : Bool} (r : Ris t.place.toList) : Ris (tailTx ep es t d).2.2.place.toList ∧ (tailTx ep es t d).2.2.led = t.led := by
  unfold tailTx
  by_cases c : (!d && t.tooFull) = true
  · rw [if_pos c]
    exact ⟨relayAll_ris _ _ _, relayAll_led _ _ _⟩
  · rw [if_neg c]
    exact ⟨r, rfl⟩
theorem add_tab {h : Int} {v : Value} {D : PySem.Froz.SD} (r : Ris D.2.2.place.toList) : Ris (addTx h v D).2.2.place.toList ∧ (addTx h v D).2.2.led = D.2.2.led := by
  have r1 := layNew_ris D.2.2 D.1 h v r
  have l1 := layNew_led D.2.2 D.1 h v
  unfold addTx
  by_cases c : (layNew D.2.2 D.1 h v).2.1.plain = true
  · rw [if_pos c]
    have := tail_tab (ep := D.2.1) (es := (layNew D.2.2 D.1 h v).1) (t := { (layNew D.2.2 D.1 h v).2.1 with plain := false }) (d := (layNew D.2.2 D.1 h v).2.2.1) r1
    exact ⟨this.1, this.2.trans l1⟩
  · rw [if_neg c]
    have := tail_tab (ep := D.2.1) (es := (layNew D.2.2 D.1 h v).1) (t := (layNew D.2.2 D.1 h v).2.1) (d := (layNew D.2.2 D.1 h v).2.2.1) r1
    exact ⟨this.1, this.2.trans l1⟩
/-- the texts that stand there behind one more -/
def more (l : List Str) (k : Str) : List Str := if k ∈ l then l else k :: l
section
variable {P : Program} {w : World} {A : Around} {E : Value → Shared → Prop} {s : Shared}
theorem txR_add {a : Addr} {l : List Str} {k : Str} {u : Tok} {Q : Bool → Shared → Prop} (R : TxR P w s.heap a l) (room : l.length + 1 < scanBound)
    (hQ : ∀ (b : Bool) (h' : Heap), Heap.SameBut a s.heap h' → TxR P w h' a (more l k) → Q b { s with heap := h' }) : wpAny (model P w) A (setAddHashed a (.str k u) (hashStr w k)) Q E s := by
  obtain ⟨D, g, ok, ris, led⟩ := R
  by_cases hk : k ∈ l
  · have em : more l k = l := if_pos hk
    obtain ⟨es, ep, t⟩ := D
    have key : (strKind P w).is k (.str k u) = true := is_str k u
    have few : es.size < scanBound := by have := ok.sz; dsimp only at this; omega
    obtain ⟨e, he, hp⟩ := (ok.mem k).mp hk
    unfold setAddHashed setAddHashedIn
    refine wpAny_holding (wpAny_bind (wpAny_setState_of (es := es) (ep := ep) (t := t) g rfl ok.fit ?_))
    dsimp only
    rw [byScan_of (x := .str k u) rfl few ok.el]
    simp only [↓reduceIte]
    unfold setAddByScan
    refine wpAny_bind (wpAny_bind (wpAny_rule (wpAny_bind (wpAny_setScan_of (knd := strKind P w) (k := k) key g rfl ok.fit ok.el ?_))))
    cases hf : List.findIdx? (fun e => (strKind P w).is k e.2) es.toList with
    | none =>
      have c := List.findIdx?_eq_none_iff.mp hf e he
      rw [hp] at c
      cases c
    | some j =>
      dsimp only
      exact wpAny_pure (wpAny_pure (hQ _ s.heap (Heap.SameBut.refl a s.heap) (by rw [em]; exact ⟨_, g, ok, ris, led⟩)))
  · have em : more l k = k :: l := if_neg hk
    obtain ⟨r2, l2⟩ := add_tab (h := hashStr w k) (v := .str k u) ris
    refine add_x g ok hk room (hQ _ _ (Heap.SameBut.update s.heap a _) ?_)
    rw [em]
    exact ⟨_, get_upd _ g rfl, add_ok u ok, r2, led.imp id fun z => by rw [l2]; exact z⟩
end
end MPS

namespace MPS
open PySem PySem.Spec PyProof.Rows L2 PySem.Froz
def seen (xs : List Str) (i : Nat) : List Str := (xs.take i).foldl more []
theorem seen_succ {xs : List Str} {i : Nat} (h : i < xs.length) : seen xs (i + 1) = more (seen xs i) (xs.getD i Str.empty) := by
  unfold seen
  rw [List.take_succ, List.foldl_append, List.getElem?_eq_getElem h, List.getD_eq_getElem?_getD, List.getElem?_eq_getElem h]
  rfl
theorem more_len (l : List Str) (k : Str) : (more l k).length ≤ l.length + 1 := by
  unfold more
  split <;> simp
theorem seen_len (xs : List Str) : ∀ i, (seen xs i).length ≤ i
  | 0 => by simp [seen]
  | i + 1 => by
    by_cases h : i < xs.length
    · rw [seen_succ h]
      have := more_len (seen xs i) (xs.getD i Str.empty)
      have := seen_len xs i
      omega
    · have e : seen xs (i + 1) = seen xs i := by
        unfold seen
        rw [List.take_of_length_le (by omega), List.take_of_length_le (by omega)]
      rw [e]
      have := seen_len xs i
      omega
section
variable {prog : Program} {w : World} {A : Around} {R : Result → Shared → Prop} {I : Addr} {fp wr : List Addr} {G : Array GenState → Array GenState → Prop} {n : Nat} {P : Nat → Value → Prop} {St : Nat → Shared → Prop}
theorem loopT (W : WalksS prog w A.in1 I fp wr G n P St) (S : Addr) (apart : S ∉ fp) (xs : List Str) (size : xs.length = n) (few : n + 1 < scanBound) (val : ∀ i v, P i v → ∃ t, v = .str (xs.getD i Str.empty) t) :
    ∀ (m i : Nat) (s : Shared), n - i = m → i ≤ n → St i s → TxR prog w s.heap S (seen xs i) →
      (∀ s', Moved (S :: wr) G s s' → TxR prog w s'.heap S (seen xs n) → R (.ok (.ret .none)) s') → codeAny (model prog w) A (.builtin "set.update.loop" ⟨[.ref S, .ref I], []⟩) R s := by
  have Sw : S ∉ wr := fun h => apart (W.sub _ h)
  have wider : ∀ b ∈ wr, b ∈ S :: wr := fun b hb => List.mem_cons_of_mem _ hb
  intro m
  induction m with
  | zero =>
    intro i s hm hi st T fin
    obtain rfl : i = n := by omega
    refine codeAny_builtin PyProof.Rows.F.entry_set_update_loop ?_
    rw [Around.under_plainId PyProof.Rows.F.plain_set_update_loop _]
    show wpAny _ A.in1 (pyNext (.ref I) >>= _) _ _ s
    refine wpAny_bind (W.done s _ _ st fun s' mv => ?_)
    show wpAny _ A.in1 (ret Value.none) _ _ s'
    exact wpAny_pure (fin s' (mv.mono wider) (T.keep fun o e => mv.heap S _ Sw e))
  | succ m ih =>
    intro i s hm hi st T fin
    have lt : i < n := by omega
    refine codeAny_builtin PyProof.Rows.F.entry_set_update_loop ?_
    rw [Around.under_plainId PyProof.Rows.F.plain_set_update_loop _]
    show wpAny _ A.in1 (pyNext (.ref I) >>= _) _ _ s
    refine wpAny_bind (W.item i s _ _ lt st fun v s1 hv st1 mv => ?_)
    obtain ⟨t, rfl⟩ := val i v hv
    have T1 : TxR prog w s1.heap S (seen xs i) := T.keep fun o e => mv.heap S _ Sw e
    show wpAny _ A.in1 (holding [Value.str (xs.getD i Str.empty) t] (setAdd S (.str (xs.getD i Str.empty) t)) >>= _) _ _ s1
    refine wpAny_bind (wpAny_holding ?_)
    unfold setAdd
    refine wpAny_holding (wpAny_bind ((PySem.strKind prog w).pyHash (k := xs.getD i Str.empty) (strKind_is _ _ _ _) ?_))
    refine txR_add (s := { s1 with toks := s1.toks + 1 }) T1 (by have := seen_len xs i; omega) fun b h2 same T2 => ?_
    have T3 : TxR prog w h2 S (seen xs (i + 1)) := by rw [seen_succ (by omega)]; exact T2
    refine wpAny_pure ⟨plainId_quiet PyProof.Rows.F.plain_set_update_loop _, ih (i + 1) _ (by omega) lt (W.frame _ s1 _ _ st1 (Nat.le_succ _) fun b hb o e => ?_) T3 fun s2 mv2 T4 => ?_⟩
    · have ne : b ≠ S := fun z => apart (by rw [← z]; exact hb)
      rw [same.2 b ne]
      exact e
    · refine fin s2 (Moved.trans W.gtrans ((mv.mono wider).then_heap (Nat.le_succ _) fun b o hb e => ?_) mv2) T4
      have ne : b ≠ S := fun z => hb (by rw [z]; exact List.mem_cons_self)
      rw [same.2 b ne]
      exact e
end
theorem perm_of_sub : ∀ {l ts : List Str}, l.Nodup → (∀ k ∈ l, k ∈ ts) → ts.length = l.length → ts.Perm l
  | [], ts, _, _, h => by
    have : ts = [] := List.length_eq_zero_iff.mp h
    subst this
    exact List.Perm.refl _
  | k :: l, ts, n, h, e => by
    rw [List.nodup_cons] at n
    have hk := h k List.mem_cons_self
    refine (List.perm_cons_erase hk).trans (List.Perm.cons k (perm_of_sub n.2 (fun j hj => ?_) ?_))
    · have ne : j ≠ k := fun z => n.1 (z ▸ hj)
      exact (List.mem_erase_of_ne ne).mpr (h j (List.mem_cons_of_mem _ hj))
    · rw [List.length_erase_of_mem hk, e]
      simp
theorem more_nodup {l : List Str} {k : Str} (h : l.Nodup) : (more l k).Nodup := by
  unfold more
  split
  · exact h
  · rename_i z
    exact List.nodup_cons.mpr ⟨z, h⟩
theorem seen_nodup (xs : List Str) : ∀ i, (seen xs i).Nodup
  | 0 => by simp [seen]
  | i + 1 => by
    by_cases h : i < xs.length
    · rw [seen_succ h]
      exact more_nodup (seen_nodup xs i)
    · have e : seen xs (i + 1) = seen xs i := by
        unfold seen
        rw [List.take_of_length_le (by omega), List.take_of_length_le (by omega)]
      rw [e]
      exact seen_nodup xs i
def txt : Value → Str
  | .str y _ => y
  | _ => Str.empty
theorem strs_txt : ∀ {vs : List Value}, (∀ v ∈ vs, ∃ k t, v = .str k t) → StrsAre vs (vs.map txt)
  | [], _ => .nil
  | v :: vs, h => by
    obtain ⟨k, t, rfl⟩ := h v List.mem_cons_self
    exact .cons k t (strs_txt fun u hu => h u (List.mem_cons_of_mem _ hu))
section
variable {P : Program} {w : World} {A : Around} {E : Value → Shared → Prop} {s : Shared}
/-- sorted(s), s such a set -/
theorem sorted_tx {a : Addr} {l : List Str} {Q : Value → Shared → Prop} (R : TxR P w s.heap a l) (nd : l.Nodup) (calm : A.handled = none) (few : l.length < scanBound)
    (hQ : ∀ s' p (out : Array Value) (c : Nat), (∀ b o, s.heap.get? b = some o → s'.heap.get? b = some o) → s'.gens = s.gens → s'.os = s.os → s.heap.objs.size ≤ p →
      s'.heap.get? p = some (seqObj "list" out c) → StrsAre out.toList (MP.sortS l) → Q (.ref p) s') :
    wpAny (model P w) A (call (.builtin "sorted") [.ref a]) Q E s := by
  obtain ⟨⟨es, ep, t⟩, g, ok, ris, led⟩ := R
  have sz := ok.sz
  have el := ok.el
  have mem := ok.mem
  dsimp only at sz ris led el mem
  refine Calls.call_function_entry kind_sorted plain_sorted entry_sorted (args_sorted1 _) ?_
  unfold Builtin.«sorted»
  refine wpAny_bind (m := checkCount "sorted" 1 1 _) (wpAny_pure ?_)
  refine wpAny_bind (collect_set (A := A.in1) calm ⟨_, g, rfl, rfl⟩ ok.fit (by rw [sz]; exact few) ris led fun s1 vs k1 hz g1 o1 pm => ?_)
  have lv : vs.length = l.length := by rw [pm.length_eq, List.length_map, Array.length_toList, sz]
  have shape : ∀ e ∈ es.toList, ∀ k, (strKind P w).is k e.2 = true → ∃ t, e.2 = .str k t := fun e he k h => Value.isStrOf_shape (x := k) (v := e.2) h
  have isS : ∀ v ∈ vs, ∃ k t, v = .str k t := by
    intro v hv
    obtain ⟨e, he, rfl⟩ := List.mem_map.mp (pm.mem_iff.mp hv)
    obtain ⟨k, hk, _⟩ := (el e he).1
    obtain ⟨t, q⟩ := shape e he k hk
    exact ⟨k, t, q⟩
  have hS : StrsAre vs (vs.map txt) := strs_txt isS
  have pl : (vs.map txt).Perm l := by
    refine perm_of_sub nd (fun k hk => ?_) (by rw [List.length_map, lv])
    obtain ⟨e, he, h⟩ := (mem k).mp hk
    obtain ⟨t, q⟩ := shape e he k h
    exact List.mem_map.mpr ⟨e.2, pm.mem_iff.mpr (List.mem_map.mpr ⟨e, he, rfl⟩), by rw [q]; rfl⟩
  have hz2 : vs.length ≤ sizeLine := by rw [lv, sizeLine_eq]; unfold scanBound at few; omega
  refine wpAny_bind (wpAny_newList ?_ hz2)
  have ho : (s1.heap.push (seqObj "list" vs.toArray 0)).get? s1.heap.objs.size = some (seqObj "list" vs.toArray 0) := Heap.get?_push_size _ rfl
  refine wpAny_bind (wpAny_holding (wpAny_call_entry PyProof.Rows.slot_list_sort ⟨_, ho, rfl⟩ PyProof.Rows.entry_list_sort (PyProof.Rows.list_sort_treeKAny strKind_oneLt ho hS.keysOf (fun v₁ v₂ rest e => keyKind_strs (by rw [← e]; exact hS)) hz2 fun st hp hs => ⟨_, rfl, ?_⟩) (PyProof.Rows.args_list_sort _)))
  obtain ⟨ys, y1, y2, y3⟩ := sorted_out_str hS hp hs
  have ey : ys = MP.sortS l := MP.sorted_is (y2.trans pl) y3
  subst ey
  obtain ⟨e2, he2⟩ := PyProof.Rows.sortedHeap_at (vs := vs) (out := (arrOf st).map (·.2)) ho
  refine wpAny_pure ⟨_, rfl, hQ _ s1.heap.objs.size ((arrOf st).map (·.2)) e2 (fun b u e => ?_) g1 o1 hz he2 y1⟩
  have q := k1 b u e
  have hb : b < s1.heap.objs.size := Heap.lt_size q
  show (sortedHeap (s1.heap.push (seqObj "list" vs.toArray 0)) s1.heap.objs.size vs ((arrOf st).map (·.2))).get? b = some u
  rw [PyProof.Rows.sortedHeap_old (Nat.ne_of_lt hb) (by rw [size_push']; exact Nat.lt_succ_of_lt hb)]
  exact Heap.get?_push_of_some _ q
end
end MPS

namespace MPS
open PySem PySem.Spec PyProof.Rows L2 PySem.Froz
section
variable {P : Program} {w : World} {A : Around} {E : Value → Shared → Prop} {s : Shared}
theorem txR_fresh {h : Heap} {a : Addr} (g : h.get? a = some { cls := .type "set", dict := none, data := .set #[] 0 (.fresh 0 0 (!w.params.followText "set-order")) }) : TxR P w h a [] := by
  refine ⟨(#[], 0, .fresh 0 0 (!w.params.followText "set-order")), g, TxOk.nil rfl, ?_, ?_⟩
  · exact List.Pairwise.nil
  · show _ ∨ (!w.params.followText "set-order") = true
    cases w.params.followText "set-order"
    · exact .inr rfl
    · exact .inl rfl
/-- set(xs), xs a list of texts -/
theorem call_set_tx {l : Addr} {items : Array Value} {xs : List Str} {Q : Value → Shared → Prop} (calm : A.handled = none) (isl : s.heap.IsList l items) (are : StrsAre items.toList xs) (few : items.size + 1 < scanBound)
    (h : ∀ (h' : Heap) (tk : Nat), TxR P w h' s.heap.objs.size (seen xs items.size) → (∀ b o, b < s.heap.objs.size → s.heap.get? b = some o → h'.get? b = some o) → Q (.ref s.heap.objs.size) { s with heap := h', toks := tk }) :
    wpAny (model P w) A (call (.type "set") [.ref l]) Q E s := by
  obtain ⟨c, tl, mro⟩ := PySem.F.called_set.mro
  have made := PySem.F.called_set.made
  have sub_ := PySem.F.called_set.sub
  apply wpAny_call
  apply codeAny_of_tree
  show wpAny _ _ (callAny (.type "set") _) _ _ _
  refine wpAny_pure ⟨Code.quiet_builtin _ (by decide +kernel), ?_⟩
  apply codeAny_builtin PySem.F.entry_type_call
  rw [Around.under_plain (weight_type_call_type "set" [.ref l] []) rfl]
  have nt := PySem.F.called_set.notType
  have cc := PySem.F.called_set.canCreate
  have tc := PySem.F.typeCall_set_1 (.ref l)
  repeat any_goals first | assumption | wp_step
  refine codeAny_mono (code_set_led1 (.ref l) (E := E)
    (Q₁ := fun obj s₁ => obj = .ref s.heap.objs.size ∧ s₁ = { s with heap := s.heap.push { cls := .type "set", dict := none, data := .set #[] 0 (.fresh 0 0 (!w.params.followText "set-order")) } }) ⟨rfl, rfl⟩) fun r s₁ hr => ?_
  cases r with
  | error e => exact hr
  | ok fl =>
    cases fl with
    | ret obj =>
      obtain ⟨rfl, rfl⟩ := hr
      have at_S : (s.heap.push { cls := .type "set", dict := none, data := .set #[] 0 (.fresh 0 0 (!w.params.followText "set-order")) }).get? s.heap.objs.size =
          some { cls := .type "set", dict := none, data := .set #[] 0 (.fresh 0 0 (!w.params.followText "set-order")) } := Heap.get?_push_size _ rfl
      have ty_S : Shared.TypeIs { s with heap := s.heap.push { cls := .type "set", dict := none, data := .set #[] 0 (.fresh 0 0 (!w.params.followText "set-order")) } }
          (.ref s.heap.objs.size) "set" := ⟨_, at_S, rfl⟩
      have li := PySem.F.called_set.init.lookup
      have bi := PySem.F.called_set.init.bind (.ref s.heap.objs.size)
      repeat any_goals first | assumption | wp_step
      refine codeAny_mono (codeAny_call_builtin (R := wants (fun r s₂ => r = .none ∧ ∃ h' tk, s₂ = { s with heap := h', toks := tk } ∧ TxR P w h' s.heap.objs.size (seen xs items.size) ∧
          (∀ b o, b < s.heap.objs.size → s.heap.get? b = some o → h'.get? b = some o)) E) PySem.F.called_set.init.plain PySem.F.entry_set_init (check_set_init_1 ty_S ?_)) fun r₂ s₂ hr₂ => ?_
      · obtain ⟨ol, hol, hcl, nl, hdl⟩ := isl
        obtain ⟨ocls, odict, odata, oslots⟩ := ol
        simp only at hcl hdl
        subst hcl hdl
        have at_l : (s.heap.push { cls := .type "set", dict := none, data := .set #[] 0 (.fresh 0 0 (!w.params.followText "set-order")) }).get? l =
            some { cls := .type "list", dict := odict, data := .seq items nl, slots := oslots } := Heap.get?_push_of_some _ hol
        have not_s := PySem.F.sub_list_set
        have not_f := PySem.F.sub_list_frozenset
        have not_d : (Value.type "list" == Value.type "dict") = false := by decide
        have isl1 : (s.heap.push { cls := .type "set", dict := none, data := .set #[] 0 (.fresh 0 0 (!w.params.followText "set-order")) }).IsList l items := ⟨_, at_l, rfl, nl, rfl⟩
        unfold Builtin.«set.__init__» noKeywords Builtin.Frozenset.updateFrom
        generalize hPI : pyIter = PI
        wp_walk
        subst hPI
        refine wpAny_pyIter_list isl1 (wpAny_bind (wpAny_runValue ?_))
        have l_lt : l < s.heap.objs.size := Heap.lt_size hol
        have calm3 : A.in1.in1.in1.handled = none := by simp [calm]
        have l_ne : l ≠ (s.heap.push { cls := .type "set", dict := none, data := .set #[] 0 (.fresh 0 0 (!w.params.followText "set-order")) }).objs.size := by
          rw [Heap.size_push]
          exact Nat.ne_of_lt (Nat.lt_succ_of_lt l_lt)
        have S_out : s.heap.objs.size ∉ [(s.heap.push { cls := .type "set", dict := none, data := .set #[] 0 (.fresh 0 0 (!w.params.followText "set-order")) }).objs.size, l] := by
          rw [Heap.size_push]
          simp only [List.mem_cons, List.not_mem_nil, or_false, not_or]
          exact .intro (Nat.ne_of_lt (Nat.lt_succ_self _)) (Nat.ne_of_gt l_lt)
        have same_len : xs.length = items.size := by rw [← StrsAre.len_eq are, Array.length_toList]
        have each : ∀ (i : Nat) (v : Value), items[i]? = some v → ∃ t, v = .str (xs.getD i Str.empty) t := fun i v hv => SS.strs_at are i v (by rw [Array.getElem?_toList]; exact hv)
        refine loopT ((Walks.list calm3 _ l l_ne items).toS) s.heap.objs.size S_out xs same_len few each (items.size - 0) 0 _ (by omega) (Nat.zero_le _) ⟨⟨_, Heap.get?_push_size _ rfl, rfl, rfl⟩, (isl1.push _)⟩ ?start ?fin
        case start =>
          have e0 : seen xs 0 = [] := by simp [seen]
          rw [e0]
          exact txR_fresh (Heap.get?_push_of_some _ at_S)
        case fin =>
          intro s' mv T
          obtain ⟨h', g2, d2, tk2, os2⟩ := s'
          obtain rfl : g2 = s.gens := mv.gens
          obtain rfl : d2 = s.drawn := mv.drawn
          obtain rfl : os2 = s.os := mv.os
          show wpAny _ _ _ _ _ _
          apply wpAny_pure
          show wpAny _ _ (ret Value.none) _ _ _
          refine wpAny_pure ⟨rfl, h', tk2, rfl, T, fun b o hb e => ?_⟩
          refine mv.heap b o ?_ (Heap.get?_push_of_some _ (Heap.get?_push_of_some _ e))
          rw [Heap.size_push]
          simp only [List.mem_cons, List.not_mem_nil, or_false, not_or]
          exact .intro (Nat.ne_of_lt hb) (Nat.ne_of_lt (Nat.lt_succ_of_lt hb))
      · cases r₂ with
        | error e => exact hr₂
        | ok fl₂ =>
          cases fl₂ with
          | ret r =>
            obtain ⟨rfl, h', tk, rfl, T, keep⟩ := hr₂
            repeat any_goals first | assumption | wp_step
            exact h _ _ T keep
          | _ => exact hr₂.elim
    | _ => exact hr.elim
end
end MPS

namespace MPS
open PySem PySem.Spec PyProof.Rows L2 PySem.Froz
theorem seen_all (xs : List Str) : seen xs xs.length = MP.setS xs := by
  unfold seen MP.setS
  rw [List.take_length]
  rfl
def tSS (K : PySem.W.Frag) (ta : TE) : TE := fun σ H Q => ta σ H fun x H1 => ∃ (l : Addr) (xs : List Str), x = .ref l ∧ SqL K H1 l (xs.map V.str) ∧ xs.length ≤ 4000 ∧ ∀ p, H1 p = none → Q (.ref p) (upd H1 p (.lst ((MP.sortS (MP.setS xs)).map V.str)))
theorem pe_sset {X : Cx} {a : Expr} {ta : TE} {p p2 q pos : Pos} (hc : X.calm = true) (hg : Gl X "sorted") (hm : X.mg "sorted" = none) (hg2 : Gl X "set") (hm2 : X.mg "set" = none) (ha : PE X a ta)
    (na : starEach [a] X.env = (false, eval a X.env) :: starEach [] X.env) : PE X (.Call (.Name "sorted" p) [.Call (.Name "set" p2) [a] [] q] [] pos) (tSS X.K ta) := by
  refine ⟨fun pins s σ H Q I h => ?_⟩
  refine Call_ (ld_blt I hg hm (show bootBuiltins ("sorted" : Str) = some (.builtin "sorted") by decide +kernel) ?_)
  refine PyProof.Rows.callWith_builtin1 (PyProof.Rows.args_cons ?_ rfl) rfl rfl
  refine Call_ (ld_blt I hg2 hm2 (show bootBuiltins ("set" : Str) = some (.type "set") by decide +kernel) ?_)
  refine PyProof.Rows.callWith_type1 (PyProof.Rows.args_cons (thn (ha.run pins s σ H _ I h) fun v s1 ⟨x, H1, I1, r1, q1⟩ => PyProof.Rows.args_nil ?_) na) na rfl
  obtain ⟨l, xs, rfl, sq, few, q1⟩ := q1
  cases r1
  obtain ⟨its, r, pl, hz⟩ := I1.list sq
  have calm := I1.ok.hd hc
  have hl : its.toArray.size = xs.length := by rw [List.size_toArray, ← r.length, List.length_map]
  refine call_set_tx calm pl.isList (by simpa using strsAre_of r) (by rw [hl]; unfold scanBound; omega) fun h' tk T keep => ?_
  refine PyProof.Rows.args_nil ?_
  have I2 : Inv X pins σ H1 { s1 with heap := h', toks := tk } := I1.kept fun b o e => keep b o (Heap.lt_size e) e
  rw [hl, seen_all] at T
  have nd : (MP.setS xs).Nodup := by rw [← seen_all]; exact seen_nodup _ _
  have sl : (MP.setS xs).length ≤ xs.length := by rw [← seen_all]; exact seen_len _ _
  refine sorted_tx (s := { s1 with heap := h', toks := tk }) T nd calm (by unfold scanBound; omega) fun s' p3 out c k g o hp hg3 are => ?_
  have hlen : ((MP.sortS (MP.setS xs)).map V.str).length ≤ sizeLine := by rw [List.length_map, MP.sortS_length, sizeLine_eq]; omega
  have hn : H1 p3 = none := I2.hok.fresh hp
  have J : Inv X pins σ (upd H1 p3 (.lst ((MP.sortS (MP.setS xs)).map V.str))) { { s1 with heap := h', toks := tk } with heap := s'.heap, gens := s'.gens, drawn := s'.drawn, toks := s'.toks } :=
    I2.call (ch := []) (Un.laid k hp hn) (I2.hok.laid k hp ⟨hlen, out.toList, c, vals_of_strs are, hg3⟩) (by rw [g]; exact I2.bare) (fun _ z => nomatch z)
  have e : s' = { { s1 with heap := h', toks := tk } with heap := s'.heap, gens := s'.gens, drawn := s'.drawn, toks := s'.toks } := by
    cases s'
    cases o
    rfl
  rw [e]
  exact ⟨.ref p3, _, J, rfl, q1 p3 hn⟩
end MPS

namespace MP
open PySem PySem.Spec PyProof.Rows L2
section
variable (cok : Str → Nat → M → Prop)
def Es.len : Es → Nat
  | .nil => 0
  | .cons _ es => es.len + 1
theorem chks_len {C : SC} : ∀ {as : Es} {es : List Expr}, chks C as es = true → es.length = as.len
  | .nil, [], _ => rfl
  | .nil, _ :: _, c => by simp [chks] at c
  | .cons _ _, [], c => by simp [chks] at c
  | .cons a as, x :: xs, c => by
    simp only [chks, Bool.and_eq_true] at c
    simp [Es.len, chks_len c.2]
mutual
def Good : E → Prop
  | .call f m as => cok f as.len m ∧ Goods as
  | .bi _ as => Goods as
  | .isi a _ => Good a
  | .bin _ a b => Good a ∧ Good b
  | .neg a => Good a
  | .cmp _ a b => Good a ∧ Good b
  | .chain _ _ a b c => Good a ∧ Good b ∧ Good c
  | .and a b => Good a ∧ Good b
  | .or a b => Good a ∧ Good b
  | .not a => Good a
  | .ix a b => Good a ∧ Good b
  | .slf a b => Good a ∧ Good b
  | .slt a b => Good a ∧ Good b
  | .tup as => Goods as
  | .lst as => Goods as
  | .getd a k d => Good a ∧ Good k ∧ Good d
  | .sset a => Good a
  | .lc e _ _ it c => Good e ∧ GoodIt it ∧ GoodO c
  | _ => True
def Goods : Es → Prop
  | .nil => True
  | .cons e es => Good e ∧ Goods es
def GoodO : Eo → Prop
  | .no => True
  | .yes e => Good e
def GoodIt : It → Prop
  | .seq e => Good e
  | .rng1 e => Good e
  | .rng2 a b => Good a ∧ Good b
end
end
section
variable {K : PySem.W.Frag} {mg : Str → Option Value} {W : WX} {σD : SD} {σ : List (Option V)} {F0 H0 F H F1 H1 : Hp} {Q : VK}
theorem dens_nil_imp {Q : List V → Hp → Prop} (hh : dens K mg W .nil σ H Q) : tNil σ H Q := by
  obtain ⟨σD, F, sl, h⟩ := hh
  simp only [evs] at h
  exact h F H [] (Ext.refl sl.sub) (by simp only [VFs])
theorem dens_cons_imp {e : E} {es : Es} {Q : List V → Hp → Prop} (hh : dens K mg W (.cons e es) σ H Q) : tCons (den K mg W e) (dens K mg W es) σ H Q := by
  obtain ⟨σD, F, sl, h⟩ := hh
  simp only [evs] at h
  refine den_in (Ext.refl sl.sub) sl h fun p F1 H1 v _ e1 x1 s1 v1 h1 => ?_
  refine dens_in x1 s1 h1 fun ps F2 H2 vs _ e2 x2 s2 v2 h2 => ?_
  exact h2 F2 H2 (v :: vs) x2 (by simp only [VFs]; exact ⟨v, vs, rfl, v1.ext e2.f, v2⟩)
theorem bi_imp {f : BI} {as : Es} {r : List V → Hp → VK → Prop} (hr : BiS K mg (biD f) r) (hh : den K mg W (.bi f as) σ H Q) : tCB r (dens K mg W as) σ H Q := by
  obtain ⟨σD, F, sl, h⟩ := hh
  simp only [ev] at h
  refine dens_in (Ext.refl sl.sub) sl h fun ps F1 H1 vs _ e1 x1 s1 v1 h1 => ?_
  exact hr x1 (v1.seens s1) h1
theorem evs_len : ∀ {as : Es} {es : List Expr} {C : SC} {ps : List DK}, chks C as es = true → evs as σD = .ok ps → ps.length = es.length
  | .nil, [], _, ps, _, h => by simp only [evs] at h; cases h; rfl
  | .nil, _ :: _, _, _, c, _ => by simp [chks] at c
  | .cons _ _, [], _, _, c, _ => by simp [chks] at c
  | .cons a as, x :: xs, C, ps, c, h => by
    simp only [chks, Bool.and_eq_true] at c
    simp only [evs] at h
    cases e1 : ev a σD with
    | ok p =>
      rw [e1] at h
      simp only [MP.R.bind_ok] at h
      cases e2 : evs as σD with
      | ok qs => rw [e2] at h; cases h; simp [evs_len c.2 e2]
      | err y => rw [e2] at h; cases h
      | stuck => rw [e2] at h; cases h
    | err y => rw [e1] at h; cases h
    | stuck => rw [e1] at h; cases h
theorem call_imp {f : Str} {m : M} {as : Es} {n : Nat} (hn : ∀ σD ps, evs as σD = .ok ps → ps.length = n) (hh : den K mg W (.call f m as) σ H Q) : tCallS (spM K mg n m) (WE W) (dens K mg W as) σ H Q := by
  obtain ⟨σD, F, sl, h⟩ := hh
  simp only [ev] at h
  refine dens_in (Ext.refl sl.sub) sl h fun ps F1 H1 vs ep e1 x1 s1 v1 h1 => ?_
  exact call_post x1 s1 v1 (hn σD ps ep) h1
theorem tup_imp {as : Es} (hh : den K mg W (.tup as) σ H Q) : tTupF (dens K mg W as) σ H Q := by
  obtain ⟨σD, F, sl, h⟩ := hh
  simp only [ev] at h
  refine dens_in (Ext.refl sl.sub) sl h fun ps F1 H1 vs ep e1 x1 s1 v1 h1 => ?_
  obtain ⟨ds, r, h2⟩ := notBos_ok h1 v1
  obtain ⟨g, h2⟩ := h2.grd
  exact ⟨len_line (by rw [r.length]; exact g), fun p ob hp hb => post_tup x1 h2 hp hb r⟩
theorem lst_imp {as : Es} (hh : den K mg W (.lst as) σ H Q) : tLst (dens K mg W as) σ H Q := by
  obtain ⟨σD, F, sl, h⟩ := hh
  simp only [ev] at h
  refine dens_in (Ext.refl sl.sub) sl h fun ps F1 H1 vs ep e1 x1 s1 v1 h1 => ?_
  obtain ⟨ds, r, h2⟩ := notBos_ok h1 v1
  obtain ⟨g, h2⟩ := h2.grd
  exact ⟨len_line (by rw [r.length]; exact g), fun p hp => post_lst x1 h2 hp r⟩
theorem dic0_imp (hh : den K mg W .dic0 σ H Q) : tDNewK σ H Q := by
  obtain ⟨σD, F, sl, h⟩ := hh
  simp only [ev] at h
  exact fun p hp => post_dic (Ext.refl sl.sub) h hp RepKs.nil
theorem getd_imp {a k d : E} (hh : den K mg W (.getd a k d) σ H Q) : tDGet2 (den K mg W a) (den K mg W k) (den K mg W d) σ H Q := by
  obtain ⟨σD, F, sl, h⟩ := hh
  simp only [ev] at h
  refine den_in (Ext.refl sl.sub) sl h fun p F1 H1 v ep e1 x1 s1 v1 h1 => ?_
  obtain ⟨ks, ek, h1⟩ := h1.rOpt
  obtain ⟨dd, kk⟩ := p
  have edd : dd = .dic ks := by cases dd <;> simp [asDic] at ek; rw [ek]
  subst edd
  obtain ⟨b, vs, rfl, q1, r⟩ := seen_dic (v1.seen s1)
  refine ⟨b, rfl, .inl ⟨vs, q1⟩, ?_⟩
  refine den_in x1 s1 h1 fun q F2 H2 u _ e2 x2 s2 v2 h2 => ?_
  refine den_in x2 s2 h2 fun t F3 H3 z _ e3 x3 s3 v3 h3 => ?_
  obtain ⟨rz, h4⟩ := notBo_ok h3 v3
  obtain ⟨key, es, h4⟩ := h4.rOpt
  obtain ⟨b', vs', eb, q1', r'⟩ := seen_dic ((v1.ext (e2.f.trans e3.f)).seen s3)
  cases eb
  have vq := (v2.ext e3.f).seen s3
  obtain ⟨kd, jj⟩ := q
  have ekd : kd = .str key := by cases kd <;> simp [asStr] at es; rw [es]
  subst ekd
  rw [seen_str vq]
  obtain ⟨o, g, tt⟩ := dget_of q1' r' key
  refine ⟨o, g, ?_⟩
  rcases tt with ⟨d', w, g1, g2, g3⟩ | ⟨g1, g2⟩
  · subst g2
    simp only [asStr, rOpt, g1, Option.getD] at h4
    exact post_fz x3 h4 g3
  · subst g2
    simp only [asStr, rOpt, g1, Option.getD] at h4
    exact post_fz x3 h4 rz
end
/-- sorted(set(a)) -/
theorem den_sset {X : Cx} {mg : Str → Option Value} {W : WX} {a : E} {x : Expr} {p p2 q pos : Pos} (hc : X.calm = true) (hg : Gl X "sorted") (hm : X.mg "sorted" = none) (hg2 : Gl X "set") (hm2 : X.mg "set" = none) (hx : okX x = true) (ha : PE X x (den X.K mg W a)) :
    PE X (.Call (.Name "sorted" p) [.Call (.Name "set" p2) [x] [] q] [] pos) (den X.K mg W (.sset a)) := by
  refine (MPS.pe_sset hc hg hm hg2 hm2 ha (star_of hx [] X.env)).imp fun σ H Q hh => ?_
  obtain ⟨σD, F, sl, h⟩ := hh
  simp only [ev] at h
  refine den_in (Ext.refl sl.sub) sl h fun p F1 H1 v ep e1 x1 s1 v1 h1 => ?_
  obtain ⟨d, k⟩ := p
  cases d <;> simp only [ssetD] at h1 <;> try exact False.elim h1
  obtain ⟨ns, en, h1⟩ := h1.rOpt
  obtain ⟨g, h1⟩ := h1.grd
  obtain ⟨l, vs, rfl, q, r⟩ := seen_lst (v1.seen s1)
  have ev2 := mapM_strs en r
  subst ev2
  exact ⟨l, ns, rfl, SqL.of q, g, fun p hp => post_lst x1 h1 hp reps_of_strs⟩
/-! ### the tree is sound -/
section
variable {X : Cx} {C : SC} {k : Nat} {W : WX}
theorem XOk.hu (o : XOk X C k W) : X.A.units + 65 < cLine := by have := o.room.un; omega
theorem takesN {X : Cx} : L2N.Takes X W0 := fun _ _ ⟨_, _, _, _, _, _, _, _, _, _, _, _, _, _, _, _, no⟩ => no.elim
theorem XOk.blk (o : XOk X C k W) (s : Shared) (H : Hp) (scope : Scope) (Ca : Addr) (cl : List (Str × Addr)) (fp : List Addr) :
    XOk (X.blk s H scope (compEnvC scope cl Ca X.env) fp) ⟨C.N, relS scope C.sc, false⟩ k W0 :=
  ⟨o.n, by rw [← o.sc]; rfl, o.nd, o.calm, o.room, takesN, (fun h => nomatch h), o.free⟩
theorem fold_of {e : Expr} (h : notDS e = true) (env : Env) (x : Value) : foldedSetIterable e env x = pure x := by
  cases e <;> first | rfl | (simp only [notDS] at h; exact absurd h (by decide))
theorem bi_rule (o : XOk X C k W) {f : BI} {g : Str} {p pos : Pos} {x : Expr} {xs : List Expr} {as : Es} (hg : f.name = g) (hG : gloB C.sc g = true) (hx : okX x = true) (hxs : ∀ e ∈ xs, okX e = true)
    (ha : PA X (x :: xs) (dens X.K X.mg W as)) : PE X (.Call (.Name g p) (x :: xs) [] pos) (den X.K X.mg W (.bi f as)) := by
  have hm : X.mg g = none := o.free g (hg ▸ bi_free f)
  have hGl := o.glo hG
  have st := star_of hx xs X.env
  have pl := plain_star (pos := pos) (env := X.env) hxs
  have viaB : ∀ {id : String}, bootBuiltins g = some (.builtin id) → g ≠ "__name__" → (g == ("__debug__" : Str)) = false → (∃ r, CallR X (.builtin id) r ∧ BiS X.K X.mg (biD f) r) → PE X (.Call (.Name g p) (x :: xs) [] pos) (den X.K X.mg W (.bi f as)) := by
    intro id hb n1 n2 hr
    obtain ⟨r, h1, h2⟩ := hr
    exact (pe_callB h1 hGl hm hb ha n1 n2 st pl).imp fun σ H Q hh => bi_imp h2 hh
  have viaT : ∀ {id : String}, bootBuiltins g = some (.type id) → g ≠ "__name__" → (g == ("__debug__" : Str)) = false → (∃ r, CallR X (.type id) r ∧ BiS X.K X.mg (biD f) r) → PE X (.Call (.Name g p) (x :: xs) [] pos) (den X.K X.mg W (.bi f as)) := by
    intro id hb n1 n2 hr
    obtain ⟨r, h1, h2⟩ := hr
    exact (pe_callTy h1 hGl hm hb ha n1 n2 st pl).imp fun σ H Q hh => bi_imp h2 hh
  subst hg
  cases f with
  | len => exact viaB (by decide +kernel) (by decide) (by decide) len_okB
  | abs => exact viaB (by decide +kernel) (by decide) (by decide) abs_okB
  | min2 => exact viaB (by decide +kernel) (by decide) (by decide) (min_okB o.calm)
  | max2 => exact viaB (by decide +kernel) (by decide) (by decide) (max_okB o.calm)
  | sum => exact viaB (by decide +kernel) (by decide) (by decide) (sum_okB o.calm)
  | any => exact viaB (by decide +kernel) (by decide) (by decide) (any_okB o.calm)
  | all => exact viaB (by decide +kernel) (by decide) (by decide) (all_okB o.calm)
  | sorted => exact viaB (by decide +kernel) (by decide) (by decide) (sorted_okB o.calm)
  | list => exact viaT (by decide +kernel) (by decide) (by decide) (list_okB o.calm)
  | tuple => exact viaT (by decide +kernel) (by decide) (by decide) tuple_okB
  | dict => exact viaT (by decide +kernel) (by decide) (by decide) (dict_okB o.calm)
  | str => exact viaT (by decide +kernel) (by decide) (by decide) str_okB
  | int => exact viaT (by decide +kernel) (by decide) (by decide) int_okB
theorem call_rule (o : XOk X C k W) {f : Str} {m : M} {p pos : Pos} {x : Expr} {xs : List Expr} {as : Es} (g : CallOk X.prog X.w X.K X.mg X.base k f as.len m) (h2 : gloB C.sc f = true) (h3 : okN f = true) (hc : chks C as (x :: xs) = true)
    (ha : PA X (x :: xs) (dens X.K X.mg W as)) : PE X (.Call (.Name f p) (x :: xs) [] pos) (den X.K X.mg W (.call f m as)) := by
  obtain ⟨fa, fd, ps, m1, m2, m3, m4⟩ := g
  have hx := chks_okX hc
  exact (pe_callS m3 o.room (o.glo h2) m1 m2 m4 (fun σ => L2N.passAt o.tk σ) ha (okN_of h3).1 (star_of (hx x List.mem_cons_self) xs X.env) (plain_star fun e he => hx e (List.mem_cons_of_mem _ he))).imp fun σ H Q hh =>
    call_imp (fun σD qs e => by rw [evs_len hc e, chks_len hc]) hh
theorem pa_cons' (o : XOk X C k W) {a : E} {as : Es} {x : Expr} {xs : List Expr} (hx : okX x = true) (h1 : PE X x (den X.K X.mg W a)) (h2 : PA X xs (dens X.K X.mg W as)) : PA X (x :: xs) (dens X.K X.mg W (.cons a as)) :=
  ⟨fun pos pins s σ H Q I q => (pa_cons h1 h2 (star_of hx xs X.env)).run pos pins s σ H Q I (dens_cons_imp q)⟩
theorem isi_rule (o : XOk X C k W) {a : E} {c g : Str} {x : Expr} {p p2 pos : Pos} (ha : PE X x (den X.K X.mg W a)) (hx : okX x = true) (hg : g = ("isinstance" : Str)) (hG : gloB C.sc g = true) (hc : gloB C.sc c = true) (hty : isTyName c = true) :
    PE X (.Call (.Name g p) [x, .Name c p2] [] pos) (den X.K X.mg W (.isi a c)) :=
  den_isi ha hx hg (o.glo hG) (o.glo hc) (o.free _ (by decide)) hty (fun y hy => o.free y (by
    unfold isTyName at hy
    have : y = "int" ∨ y = "bool" ∨ y = "str" ∨ y = "tuple" ∨ y = "list" ∨ y = "dict" := by simpa using hy
    rcases this with rfl | rfl | rfl | rfl | rfl | rfl <;> decide)) fun e es he => star_of he es X.env
theorem pt_plain {e : E} {x : Expr} (h : PE X x (den X.K X.mg W e)) (he : ∀ whole, isTrue x X.env whole = (do let v ← whole; standAt x.pos; holding [v] (truthy v))) : PT X x (denT X.K X.mg W e) :=
  (pt_val h he).imp fun σ H Q hh => test_imp hh
theorem getd_rule (o : XOk X C k W) {x y z : Expr} {apos cpos : Pos} {a b d : E} (hx : okX x = true) (hy : okX y = true) (hz : okX z = true) (hl : (apos.endLine == cpos.line) = true)
    (ha : PE X x (den X.K X.mg W a)) (hb : PE X y (den X.K X.mg W b)) (hd : PE X z (den X.K X.mg W d)) : PE X (.Call (.Attribute x "get" apos) [y, z] [] cpos) (den X.K X.mg W (.getd a b d)) := by
  have st : starEach [y, z] X.env = [(false, eval y X.env), (false, eval z X.env)] := by rw [star_of hy, star_of hz]; rfl
  refine (pe_dget2 (by have := o.hu; omega) ha hb hd ⟨base_of hx _ _ _, ?_, hl, ?_⟩).imp fun σ H Q hh => getd_imp hh
  · rw [st]; rfl
  · rw [st]; rfl
theorem boolop_pw {op : BoolOp} {vs : List Expr} {pos : Pos} {t : TT} (h : PT X (.BoolOp op vs pos) t) : PW X (.BoolOp op vs pos) t := ⟨fun whole pins s σ H Q I q => h.run pins s σ H Q I q⟩
end
section
variable {k : Nat}
mutual
theorem pe_ok : ∀ (e : E) {X : Cx} {C : SC} {W : WX} (x : Expr), XOk X C k W → Good (CallOk X.prog X.w X.K X.mg X.base k) e → chk C false e x = true → PE X x (den X.K X.mg W e)
  | .var i, X, C, W, x, o, g, h => by
    cases x with
    | Name y p =>
      simp only [chk, Bool.and_eq_true, decide_eq_true_eq] at h
      obtain ⟨n1, n2, _⟩ := okN_of h.2
      exact den_var (by rw [o.n]; exact h.1.1) (o.vis h.1.2) n1 n2
    | _ => simp [chk] at h
  | .int i, X, C, W, x, o, g, h => by
    cases x with
    | Constant v kk p =>
      cases v with
      | int j =>
        simp only [chk, Bool.not_false, Bool.true_and, decide_eq_true_eq] at h
        subst h
        exact den_const pe_int (fun σ => by simp only [ev]) fun F => rep_int
      | _ => simp [chk] at h
    | _ => simp [chk] at h
  | .str i, X, C, W, x, o, g, h => by
    cases x with
    | Constant v kk p =>
      cases v with
      | str j =>
        simp only [chk, Bool.not_false, Bool.true_and, decide_eq_true_eq] at h
        subst h
        exact den_const pe_str (fun σ => by simp only [ev]) fun F => rep_str
      | _ => simp [chk] at h
    | _ => simp [chk] at h
  | .bl i, X, C, W, x, o, g, h => by
    cases x with
    | Constant v kk p =>
      cases v with
      | bool j =>
        simp only [chk, Bool.not_false, Bool.true_and, decide_eq_true_eq] at h
        subst h
        exact den_const pe_bl (fun σ => by simp only [ev]) fun F => rep_bl
      | _ => simp [chk] at h
    | _ => simp [chk] at h
  | .non, X, C, W, x, o, g, h => by
    cases x with
    | Constant v kk p =>
      cases v with
      | none => exact den_const (d := .non) (v := .non) pe_non (fun σ => by simp only [ev]) fun F => by simp only [Rep]
      | _ => simp [chk] at h
    | _ => simp [chk] at h
  | .bin b e1 e2, X, C, W, x, o, g, h => by
    cases x with
    | BinOp x1 op x2 p =>
      simp only [chk, Bool.not_false, Bool.true_and, Bool.and_eq_true] at h
      simp only [Good] at g
      obtain ⟨r, hr, hS⟩ := bin_ok (X := X) (mg := X.mg) h.1.1
      exact (pe_op hr (pe_ok e1 x1 o g.1 h.1.2) (pe_ok e2 x2 o g.2 h.2)).imp fun σ H Q hh => op_imp hS (fun σ => by simp only [ev]) hh
    | _ => simp [chk] at h
  | .neg e1, X, C, W, x, o, g, h => by
    cases x with
    | UnaryOp op x1 p =>
      cases op with
      | USub =>
        simp only [chk, Bool.not_false, Bool.true_and] at h
        simp only [Good] at g
        exact den_un (f := negD) (fun x s h => neg_ok x s h) (fun σ => by simp only [ev]) (pe_un un_neg (pe_ok e1 x1 o g h))
      | _ => simp [chk] at h
    | _ => simp [chk] at h
  | .cmp b e1 e2, X, C, W, x, o, g, h => by
    cases x with
    | Compare x1 ops cs p =>
      rcases ops with _ | ⟨op, _ | ⟨op2, ops⟩⟩ <;> rcases cs with _ | ⟨x2, _ | ⟨z, cs⟩⟩ <;> first | (simp [chk] at h; done) | skip
      simp only [chk, Bool.and_eq_true] at h
      simp only [Good] at g
      obtain ⟨r, hr, hS⟩ := cmp_ok (X := X) (mg := X.mg) o.hu h.1.1.1
      exact (pe_cmpR hr (pe_ok e1 x1 o g.1 h.1.1.2) (pe_ok e2 x2 o g.2 h.1.2) (behind_of h.2 _)).imp fun σ H Q hh => op_imp hS (fun σ => by simp only [ev]) hh
    | _ => simp [chk] at h
  | .chain b b' e1 e2 e3, X, C, W, x, o, g, h => by
    cases x with
    | Compare x1 ops cs p =>
      rcases ops with _ | ⟨op, _ | ⟨op2, _ | ⟨_, _⟩⟩⟩ <;> rcases cs with _ | ⟨x2, _ | ⟨x3, _ | ⟨_, _⟩⟩⟩ <;> first | (simp [chk] at h; done) | skip
      simp only [chk, Bool.and_eq_true] at h
      simp only [Good] at g
      obtain ⟨⟨⟨⟨⟨⟨h1, h2⟩, h3⟩, h4⟩, h5⟩, h6⟩, h7⟩ := h
      obtain ⟨r, hr, hS⟩ := cmp_ok (X := X) (mg := X.mg) o.hu h1
      obtain ⟨r', hr', hS'⟩ := cmp_ok (X := X) (mg := X.mg) o.hu h2
      exact (pe_chain hr hr' (pe_ok e1 x1 o g.1 h3) (pe_ok e2 x2 o g.2.1 h4) (pe_ok e3 x3 o g.2.2 h5) (behind_of h7 _)).imp fun σ H Q hh => chain_imp hS hS' hh
    | _ => simp [chk] at h
  | .and e1 e2, X, C, W, x, o, g, h => by
    cases x with
    | BoolOp op vs p =>
      cases op <;> rcases vs with _ | ⟨x1, _ | ⟨x2, rest⟩⟩ <;> first | (simp [chk] at h; done) | skip
      simp only [chk, Bool.and_eq_true] at h
      simp only [Good] at g
      cases rest with
      | nil => exact (pe_and (pe_ok e1 x1 o g.1 h.1) (pe_one (pe_ok e2 x2 o g.2 h.2))).imp fun σ H Q hh => and_imp hh
      | cons y ys => exact (pe_and (pe_ok e1 x1 o g.1 h.1) (pe_ok e2 _ o g.2 h.2)).imp fun σ H Q hh => and_imp hh
    | _ => simp [chk] at h
  | .or e1 e2, X, C, W, x, o, g, h => by
    cases x with
    | BoolOp op vs p =>
      cases op <;> rcases vs with _ | ⟨x1, _ | ⟨x2, rest⟩⟩ <;> first | (simp [chk] at h; done) | skip
      simp only [chk, Bool.and_eq_true] at h
      simp only [Good] at g
      cases rest with
      | nil => exact (pe_or (pe_ok e1 x1 o g.1 h.1) (pe_one (pe_ok e2 x2 o g.2 h.2))).imp fun σ H Q hh => or_imp hh
      | cons y ys => exact (pe_or (pe_ok e1 x1 o g.1 h.1) (pe_ok e2 _ o g.2 h.2)).imp fun σ H Q hh => or_imp hh
    | _ => simp [chk] at h
  | .not e1, X, C, W, x, o, g, h => by
    cases x with
    | UnaryOp op x1 p =>
      cases op with
      | Not =>
        simp only [chk] at h
        simp only [Good] at g
        exact (pe_not (pe_ok e1 x1 o g h)).imp fun σ H Q hh => not_imp hh
      | _ => simp [chk] at h
    | _ => simp [chk] at h
  | .call f m as, X, C, W, x, o, g, h => by
    cases as with
    | nil => cases x <;> simp [chk] at h
    | cons a as =>
      cases x with
      | Call fn xs kws p =>
        cases fn with
        | Name y py =>
          rcases xs with _ | ⟨x1, xs⟩ <;> rcases kws with _ | ⟨_, _⟩ <;> first | (simp [chk] at h; done) | skip
          simp only [chk, Bool.and_eq_true, decide_eq_true_eq] at h
          simp only [Good, Goods] at g
          obtain ⟨⟨⟨⟨⟨rfl, h2⟩, h3⟩, h4⟩, h5⟩, h6⟩ := h
          have hc : chks C (.cons a as) (x1 :: xs) = true := by simp only [chks, Bool.and_eq_true]; exact ⟨⟨h4, h5⟩, h6⟩
          exact call_rule o g.1 h2 h3 hc (pa_cons' o h4 (pe_ok a x1 o g.2.1 h5) (pa_ok as xs o g.2.2 h6))
        | _ => simp [chk] at h
      | _ => simp [chk] at h
  | .bi f as, X, C, W, x, o, g, h => by
    cases as with
    | nil => cases x <;> simp [chk] at h
    | cons a as =>
      cases x with
      | Call fn xs kws p =>
        cases fn with
        | Name y py =>
          rcases xs with _ | ⟨x1, xs⟩ <;> rcases kws with _ | ⟨_, _⟩ <;> first | (simp [chk] at h; done) | skip
          simp only [chk, Bool.and_eq_true, decide_eq_true_eq] at h
          simp only [Good, Goods] at g
          obtain ⟨⟨⟨⟨h1, h2⟩, h4⟩, h5⟩, h6⟩ := h
          exact bi_rule o h1 h2 h4 (chks_okX h6) (pa_cons' o h4 (pe_ok a x1 o g.1 h5) (pa_ok as xs o g.2 h6))
        | _ => simp [chk] at h
      | _ => simp [chk] at h
  | .isi a c, X, C, W, x, o, g, h => by
    cases x with
    | Call fn xs kws p =>
      cases fn with
      | Name y py =>
        rcases xs with _ | ⟨x1, _ | ⟨x2, _ | ⟨_, _⟩⟩⟩ <;> rcases kws with _ | ⟨_, _⟩ <;> first | (simp [chk] at h; done) | skip
        cases x2 with
        | Name z pz =>
          simp only [chk, Bool.and_eq_true, decide_eq_true_eq] at h
          simp only [Good] at g
          obtain ⟨⟨⟨⟨⟨⟨h1, h2⟩, h3⟩, rfl⟩, h5⟩, h6⟩, h7⟩ := h
          exact isi_rule o (pe_ok a x1 o g h7) h6 h1 h2 h3 h5
        | _ => simp [chk] at h
      | _ => simp [chk] at h
    | _ => simp [chk] at h
  | .ix a b, X, C, W, x, o, g, h => by
    cases x with
    | Subscript x1 x2 p =>
      simp only [chk, Bool.and_eq_true] at h
      simp only [Good] at g
      exact den_ix (by have := o.hu; omega) (pe_ok a x1 o g.1 h.1.2) (pe_ok b x2 o g.2 h.2) h.1.1
    | _ => simp [chk] at h
  | .slf a b, X, C, W, x, o, g, h => by
    cases x with
    | Subscript x1 x2 p =>
      cases x2 with
      | Slice lo hi st p2 =>
        cases lo <;> cases hi <;> cases st <;> first | (simp [chk] at h; done) | skip
        simp only [chk, Bool.not_false, Bool.true_and, Bool.and_eq_true] at h
        simp only [Good] at g
        exact den_slf (pe_ok a x1 o g.1 h.1) (pe_ok b _ o g.2 h.2)
      | _ => simp [chk] at h
    | _ => simp [chk] at h
  | .slt a b, X, C, W, x, o, g, h => by
    cases x with
    | Subscript x1 x2 p =>
      cases x2 with
      | Slice lo hi st p2 =>
        cases lo <;> cases hi <;> cases st <;> first | (simp [chk] at h; done) | skip
        simp only [chk, Bool.not_false, Bool.true_and, Bool.and_eq_true] at h
        simp only [Good] at g
        exact den_slt (pe_ok a x1 o g.1 h.1) (pe_ok b _ o g.2 h.2)
      | _ => simp [chk] at h
    | _ => simp [chk] at h
  | .tup as, X, C, W, x, o, g, h => by
    cases x with
    | Tuple es kk p =>
      simp only [chk, Bool.not_false, Bool.true_and] at h
      simp only [Good] at g
      exact (pe_tupF (pa_ok as es o g h)).imp fun σ H Q hh => tup_imp hh
    | _ => simp [chk] at h
  | .lst as, X, C, W, x, o, g, h => by
    cases x with
    | List es p =>
      simp only [chk, Bool.not_false, Bool.true_and] at h
      simp only [Good] at g
      exact (pe_lst (pa_ok as es o g h)).imp fun σ H Q hh => lst_imp hh
    | _ => simp [chk] at h
  | .dic0, X, C, W, x, o, g, h => by
    cases x with
    | Dict ks vs p =>
      cases ks <;> cases vs <;> first | (simp [chk] at h; done) | skip
      exact pe_dnewK.imp fun σ H Q hh => dic0_imp hh
    | _ => simp [chk] at h
  | .getd a b d, X, C, W, x, o, g, h => by
    cases x with
    | Call fn xs kws p =>
      cases fn with
      | Attribute x1 nm pa =>
        rcases xs with _ | ⟨x2, _ | ⟨x3, _ | ⟨_, _⟩⟩⟩ <;> rcases kws with _ | ⟨_, _⟩ <;> first | (simp [chk] at h; done) | skip
        simp only [chk, Bool.and_eq_true, decide_eq_true_eq] at h
        simp only [Good] at g
        obtain ⟨⟨⟨⟨⟨⟨⟨rfl, h2⟩, h3⟩, h4⟩, h5⟩, h6⟩, h7⟩, h8⟩ := h
        exact getd_rule o h2 h3 h4 h5 (pe_ok a x1 o g.1 h6) (pe_ok b x2 o g.2.1 h7) (pe_ok d x3 o g.2.2 h8)
      | _ => simp [chk] at h
    | _ => simp [chk] at h
  | .sset a, X, C, W, x, o, g, h => by
    cases x with
    | Call fn xs kws p =>
      cases fn with
      | Name y py =>
        rcases xs with _ | ⟨x1, _ | ⟨_, _⟩⟩ <;> rcases kws with _ | ⟨_, _⟩ <;> first | (simp [chk] at h; done) | skip
        cases x1 with
        | Call fn2 xs2 kws2 p2 =>
          cases fn2 with
          | Name y2 py2 =>
            rcases xs2 with _ | ⟨x2, _ | ⟨_, _⟩⟩ <;> rcases kws2 with _ | ⟨_, _⟩ <;> first | (simp [chk] at h; done) | skip
            simp only [chk, Bool.and_eq_true, decide_eq_true_eq] at h
            simp only [Good] at g
            obtain ⟨⟨⟨⟨⟨rfl, rfl⟩, h3⟩, h4⟩, h5⟩, h6⟩ := h
            exact den_sset o.calm (o.glo h3) (o.free _ (by decide)) (o.glo h4) (o.free _ (by decide)) h5 (pe_ok a x2 o g h6)
          | _ => simp [chk] at h
        | _ => simp [chk] at h
      | _ => simp [chk] at h
    | _ => simp [chk] at h
  | .lc elt tg own it c, X, C, W, x, o, g, h => by
    cases x with
    | ListComp x1 gens scope p =>
      rcases gens with _ | ⟨⟨u, i, ifs, isa⟩, _ | ⟨_, _⟩⟩ <;> first | (simp [chk] at h; done) | skip
      simp only [chk, Bool.not_false, Bool.true_and, Bool.and_eq_true, decide_eq_true_eq] at h
      simp only [Good] at g
      obtain ⟨⟨⟨⟨⟨⟨⟨rfl, h2⟩, h3⟩, h4⟩, h5⟩, h6⟩, h7⟩, h8⟩ := h
      refine (pe_lc o.calm (by rw [o.n]; exact o.nd) (pi_ok it (tg := u) i o g.2.1 h3) (blkOk_by (by rw [o.n, o.sc]; exact h2)) (fun s H Ca cl fp => pg_ok (o.blk s H scope Ca cl fp) h5)
        (fun s H Ca cl fp => pts_ok c (X := X.blk s H scope (compEnvC scope cl Ca X.env) fp) ifs (o.blk s H scope Ca cl fp) g.2.2 h7) (fun s H Ca cl fp => pe_ok elt (X := X.blk s H scope (compEnvC scope cl Ca X.env) fp) x1 (o.blk s H scope Ca cl fp) g.1 h8) (fun y => fold_of h4 _ y)).imp fun σ H Q hh => lc_read h6 hh
    | _ => simp [chk] at h
theorem pa_ok : ∀ (as : Es) {X : Cx} {C : SC} {W : WX} (xs : List Expr), XOk X C k W → Goods (CallOk X.prog X.w X.K X.mg X.base k) as → chks C as xs = true → PA X xs (dens X.K X.mg W as)
  | .nil, X, C, W, xs, o, g, h => by
    cases xs with
    | nil => exact ⟨fun pos pins s σ H Q I q => pa_nil.run pos pins s σ H Q I (dens_nil_imp q)⟩
    | cons _ _ => simp [chks] at h
  | .cons a as, X, C, W, xs, o, g, h => by
    cases xs with
    | nil => simp [chks] at h
    | cons x xs =>
      simp only [chks, Bool.and_eq_true] at h
      simp only [Goods] at g
      exact ⟨fun pos pins s σ H Q I q => (pa_cons (pe_ok a x o g.1 h.1.2) (pa_ok as xs o g.2 h.2) (star_of h.1.1 xs X.env)).run pos pins s σ H Q I (dens_cons_imp q)⟩
theorem pi_ok : ∀ (it : It) {X : Cx} {C : SC} {W : WX} {tg : Expr} (x : Expr), XOk X C k W → GoodIt (CallOk X.prog X.w X.K X.mg X.base k) it → chkIt C it x = true → PI X tg x (denIt X.K X.mg W it)
  | .seq e, X, C, W, tg, x, o, g, h => by
    simp only [chkIt] at h
    simp only [GoodIt] at g
    exact pi_seq (pe_ok e x o g h)
  | .rng1 e, X, C, W, tg, x, o, g, h => by
    cases x with
    | Call fn xs kws p =>
      cases fn with
      | Name y py =>
        rcases xs with _ | ⟨x1, _ | ⟨_, _⟩⟩ <;> rcases kws with _ | ⟨_, _⟩ <;> first | (simp [chkIt] at h; done) | skip
        simp only [chkIt, Bool.and_eq_true, decide_eq_true_eq] at h
        simp only [GoodIt] at g
        obtain ⟨⟨⟨rfl, h2⟩, h3⟩, h4⟩ := h
        have ha : PA X [x1] (tCons (den X.K X.mg W e) tNil) := pa_cons (pe_ok e x1 o g h4) pa_nil (star_of h3 [] X.env)
        refine (pi_range1 (o.glo h2) (o.free _ (by decide)) ha (star_of h3 [] X.env)).imp fun σ H Q hh => ?_
        obtain ⟨σD, F, sl, hp⟩ := hh
        simp only [evIt] at hp
        refine den_in (Ext.refl sl.sub) sl hp fun p F1 H1 v ep e1 x1 s1 v1 h1 => ?_
        obtain ⟨d, kk⟩ := p
        cases d <;> simp only [rng1D] at h1 <;> try exact False.elim h1
        obtain ⟨gg, h1⟩ := h1.grd
        exact ⟨_, by rw [seen_int (v1.seen s1)], gg.1, gg.2, h1 F1 H1 _ x1 (walks_range _ _)⟩
      | _ => simp [chkIt] at h
    | _ => simp [chkIt] at h
  | .rng2 e e', X, C, W, tg, x, o, g, h => by
    cases x with
    | Call fn xs kws p =>
      cases fn with
      | Name y py =>
        rcases xs with _ | ⟨x1, _ | ⟨x2, _ | ⟨_, _⟩⟩⟩ <;> rcases kws with _ | ⟨_, _⟩ <;> first | (simp [chkIt] at h; done) | skip
        simp only [chkIt, Bool.and_eq_true, decide_eq_true_eq] at h
        simp only [GoodIt] at g
        obtain ⟨⟨⟨⟨⟨rfl, h2⟩, h3⟩, h4⟩, h5⟩, h6⟩ := h
        have ha : PA X [x1, x2] (tCons (den X.K X.mg W e) (tCons (den X.K X.mg W e') tNil)) := pa_cons (pe_ok e x1 o g.1 h5) (pa_cons (pe_ok e' x2 o g.2 h6) pa_nil (star_of h4 [] X.env)) (star_of h3 [x2] X.env)
        refine (pi_range2 (o.glo h2) (o.free _ (by decide)) ha (by rw [star_of h3, star_of h4]; rfl) (star_of h4 [] X.env)).imp fun σ H Q hh => ?_
        obtain ⟨σD, F, sl, hp⟩ := hh
        simp only [evIt] at hp
        refine den_in (Ext.refl sl.sub) sl hp fun p F1 H1 v ep e1 x1 s1 v1 h1 => ?_
        refine den_in x1 s1 h1 fun q F2 H2 u eq e2 x2 s2 v2 h2 => ?_
        have w1 := (v1.ext e2.f).seen s2
        have w2 := v2.seen s2
        obtain ⟨d, kk⟩ := p
        obtain ⟨d2, kk2⟩ := q
        cases d <;> cases d2 <;> simp only [rng2D] at h2 <;> try exact False.elim h2
        obtain ⟨gg, h2⟩ := h2.grd
        exact ⟨_, _, by rw [seen_int w1, seen_int w2], ⟨gg.1.1, gg.1.2, gg.2.1, gg.2.2⟩, h2 F2 H2 _ x2 (walks_range _ _)⟩
      | _ => simp [chkIt] at h
    | _ => simp [chkIt] at h
theorem pts_ok : ∀ (c : Eo) {X : Cx} {C : SC} (ifs : List Expr), XOk X C k W0 → GoodO (CallOk X.prog X.w X.K X.mg X.base k) c → chkO C c ifs = true → PTs X ifs (denO X.K X.mg c)
  | .no, X, C, ifs, o, g, h => by
    cases ifs with
    | nil => exact pts_nil
    | cons _ _ => simp [chkO] at h
  | .yes e, X, C, ifs, o, g, h => by
    rcases ifs with _ | ⟨x, _ | ⟨_, _⟩⟩ <;> first | (simp [chkO] at h; done) | skip
    simp only [chkO] at h
    simp only [GoodO] at g
    exact pts_one (pt_ok e x o g h)
theorem pt_ok : ∀ (e : E) {X : Cx} {C : SC} {W : WX} (x : Expr), XOk X C k W → Good (CallOk X.prog X.w X.K X.mg X.base k) e → chk C true e x = true → PT X x (denT X.K X.mg W e)
  | .and e1 e2, X, C, W, x, o, g, h => by
    cases x with
    | BoolOp op vs p =>
      cases op <;> rcases vs with _ | ⟨x1, _ | ⟨x2, rest⟩⟩ <;> first | (simp [chk] at h; done) | skip
      simp only [chk, Bool.and_eq_true] at h
      simp only [Good] at g
      cases rest with
      | nil => exact (PW.pt (pw_and (pt_ok e1 x1 o g.1 h.1) (pw_and1 (pt_ok e2 x2 o g.2 h.2)))).imp fun σ H Q hh => andT_imp hh
      | cons y ys => exact (PW.pt (pw_and (pt_ok e1 x1 o g.1 h.1) (boolop_pw (pt_ok e2 _ o g.2 h.2)))).imp fun σ H Q hh => andT_imp hh
    | _ => simp [chk] at h
  | .or e1 e2, X, C, W, x, o, g, h => by
    cases x with
    | BoolOp op vs p =>
      cases op <;> rcases vs with _ | ⟨x1, _ | ⟨x2, rest⟩⟩ <;> first | (simp [chk] at h; done) | skip
      simp only [chk, Bool.and_eq_true] at h
      simp only [Good] at g
      cases rest with
      | nil => exact (PW.pt (pw_or (pt_ok e1 x1 o g.1 h.1) (pw_or1 (pt_ok e2 x2 o g.2 h.2)))).imp fun σ H Q hh => orT_imp hh
      | cons y ys => exact (PW.pt (pw_or (pt_ok e1 x1 o g.1 h.1) (boolop_pw (pt_ok e2 _ o g.2 h.2)))).imp fun σ H Q hh => orT_imp hh
    | _ => simp [chk] at h
  | .not e1, X, C, W, x, o, g, h => by
    cases x with
    | UnaryOp op x1 p =>
      cases op with
      | Not =>
        simp only [chk] at h
        simp only [Good] at g
        exact (pt_not (pt_ok e1 x1 o g h)).imp fun σ H Q hh => notT_imp hh
      | _ => simp [chk] at h
    | _ => simp [chk] at h
  | .cmp b e1 e2, X, C, W, x, o, g, h => by
    cases x with
    | Compare x1 ops cs p =>
      rcases ops with _ | ⟨op, _ | ⟨op2, ops⟩⟩ <;> rcases cs with _ | ⟨x2, _ | ⟨z, cs⟩⟩ <;> first | (simp [chk] at h; done) | skip
      simp only [chk, Bool.and_eq_true] at h
      simp only [Good] at g
      obtain ⟨r, hr, hS⟩ := cmp_ok (X := X) (mg := X.mg) o.hu h.1.1.1
      exact (pt_cmpR hr (pe_ok e1 x1 o g.1 h.1.1.2) (pe_ok e2 x2 o g.2 h.1.2) (behind_of h.2 _)).imp fun σ H Q hh => op_imp hS (fun σ => by simp only [ev]) (test_imp hh)
    | _ => simp [chk] at h
  | .chain b b' e1 e2 e3, X, C, W, x, o, g, h => by
    cases x with
    | Compare x1 ops cs p =>
      rcases ops with _ | ⟨op, _ | ⟨op2, _ | ⟨_, _⟩⟩⟩ <;> rcases cs with _ | ⟨x2, _ | ⟨x3, _ | ⟨_, _⟩⟩⟩ <;> first | (simp [chk] at h; done) | skip
      simp only [chk, Bool.and_eq_true] at h
      simp only [Good] at g
      obtain ⟨⟨⟨⟨⟨⟨h1, h2⟩, h3⟩, h4⟩, h5⟩, h6⟩, h7⟩ := h
      obtain ⟨r, hr, hS⟩ := cmp_ok (X := X) (mg := X.mg) o.hu h1
      obtain ⟨r', hr', hS'⟩ := cmp_ok (X := X) (mg := X.mg) o.hu h2
      exact (pt_chain hr hr' (pe_ok e1 x1 o g.1 h3) (pe_ok e2 x2 o g.2.1 h4) (pe_ok e3 x3 o g.2.2 h5) (behind_of h7 _)).imp fun σ H Q hh => chain_imp hS hS' (test_imp hh)
    | _ => simp [chk] at h
  | .call f m as, X, C, W, x, o, g, h => by
    cases as with
    | nil => cases x <;> simp [chk] at h
    | cons a as =>
      cases x with
      | Call fn xs kws p =>
        cases fn with
        | Name y py =>
          rcases xs with _ | ⟨x1, xs⟩ <;> rcases kws with _ | ⟨_, _⟩ <;> first | (simp [chk] at h; done) | skip
          simp only [chk, Bool.and_eq_true, decide_eq_true_eq] at h
          simp only [Good, Goods] at g
          obtain ⟨⟨⟨⟨⟨rfl, h2⟩, h3⟩, h4⟩, h5⟩, h6⟩ := h
          have hc : chks C (.cons a as) (x1 :: xs) = true := by simp only [chks, Bool.and_eq_true]; exact ⟨⟨h4, h5⟩, h6⟩
          exact pt_plain (call_rule o g.1 h2 h3 hc (pa_cons' o h4 (pe_ok a x1 o g.2.1 h5) (pa_ok as xs o g.2.2 h6))) (by intro _; rfl)
        | _ => simp [chk] at h
      | _ => simp [chk] at h
  | .bi f as, X, C, W, x, o, g, h => by
    cases as with
    | nil => cases x <;> simp [chk] at h
    | cons a as =>
      cases x with
      | Call fn xs kws p =>
        cases fn with
        | Name y py =>
          rcases xs with _ | ⟨x1, xs⟩ <;> rcases kws with _ | ⟨_, _⟩ <;> first | (simp [chk] at h; done) | skip
          simp only [chk, Bool.and_eq_true, decide_eq_true_eq] at h
          simp only [Good, Goods] at g
          obtain ⟨⟨⟨⟨h1, h2⟩, h4⟩, h5⟩, h6⟩ := h
          exact pt_plain (bi_rule o h1 h2 h4 (chks_okX h6) (pa_cons' o h4 (pe_ok a x1 o g.1 h5) (pa_ok as xs o g.2 h6))) (by intro _; rfl)
        | _ => simp [chk] at h
      | _ => simp [chk] at h
  | .isi a c, X, C, W, x, o, g, h => by
    cases x with
    | Call fn xs kws p =>
      cases fn with
      | Name y py =>
        rcases xs with _ | ⟨x1, _ | ⟨x2, _ | ⟨_, _⟩⟩⟩ <;> rcases kws with _ | ⟨_, _⟩ <;> first | (simp [chk] at h; done) | skip
        cases x2 with
        | Name z pz =>
          simp only [chk, Bool.and_eq_true, decide_eq_true_eq] at h
          simp only [Good] at g
          obtain ⟨⟨⟨⟨⟨⟨h1, h2⟩, h3⟩, rfl⟩, h5⟩, h6⟩, h7⟩ := h
          exact pt_plain (isi_rule o (pe_ok a x1 o g h7) h6 h1 h2 h3 h5) (by intro _; rfl)
        | _ => simp [chk] at h
      | _ => simp [chk] at h
    | _ => simp [chk] at h
  | .var i, X, C, W, x, o, g, h => by
    cases x with
    | Name y p =>
      simp only [chk, Bool.and_eq_true, decide_eq_true_eq] at h
      obtain ⟨n1, n2, _⟩ := okN_of h.2
      exact pt_plain (den_var (by rw [o.n]; exact h.1.1) (o.vis h.1.2) n1 n2) (by intro _; rfl)
    | _ => simp [chk] at h
  | .ix a b, X, C, W, x, o, g, h => by
    cases x with
    | Subscript x1 x2 p =>
      simp only [chk, Bool.and_eq_true] at h
      simp only [Good] at g
      exact pt_plain (den_ix (by have := o.hu; omega) (pe_ok a x1 o g.1 h.1.2) (pe_ok b x2 o g.2 h.2) h.1.1) (by intro _; rfl)
    | _ => simp [chk] at h
  | .getd a b d, X, C, W, x, o, g, h => by
    cases x with
    | Call fn xs kws p =>
      cases fn with
      | Attribute x1 nm pa =>
        rcases xs with _ | ⟨x2, _ | ⟨x3, _ | ⟨_, _⟩⟩⟩ <;> rcases kws with _ | ⟨_, _⟩ <;> first | (simp [chk] at h; done) | skip
        simp only [chk, Bool.and_eq_true, decide_eq_true_eq] at h
        simp only [Good] at g
        obtain ⟨⟨⟨⟨⟨⟨⟨rfl, h2⟩, h3⟩, h4⟩, h5⟩, h6⟩, h7⟩, h8⟩ := h
        exact pt_plain (getd_rule o h2 h3 h4 h5 (pe_ok a x1 o g.1 h6) (pe_ok b x2 o g.2.1 h7) (pe_ok d x3 o g.2.2 h8)) (by intro _; rfl)
      | _ => simp [chk] at h
    | _ => simp [chk] at h
  | .int _, _, _, _, x, _, _, h => by
    cases x <;> first | (simp [chk] at h; done) | (rename_i v _ _; cases v <;> simp [chk] at h)
  | .str _, _, _, _, x, _, _, h => by
    cases x <;> first | (simp [chk] at h; done) | (rename_i v _ _; cases v <;> simp [chk] at h)
  | .bl _, _, _, _, x, _, _, h => by
    cases x <;> first | (simp [chk] at h; done) | (rename_i v _ _; cases v <;> simp [chk] at h)
  | .non, _, _, _, x, _, _, h => by
    cases x <;> first | (simp [chk] at h; done) | (rename_i v _ _; cases v <;> simp [chk] at h)
  | .bin _ _ _, _, _, _, x, _, _, h => by cases x <;> simp [chk] at h
  | .neg _, _, _, _, x, _, _, h => by cases x <;> first | (simp [chk] at h; done) | (rename_i v _ _; cases v <;> simp [chk] at h)
  | .slf _ _, _, _, _, x, _, _, h => by
    cases x with
    | Subscript x1 x2 p =>
      cases x2 with
      | Slice lo hi st p2 => cases lo <;> cases hi <;> cases st <;> simp [chk] at h
      | _ => simp [chk] at h
    | _ => simp [chk] at h
  | .slt _ _, _, _, _, x, _, _, h => by
    cases x with
    | Subscript x1 x2 p =>
      cases x2 with
      | Slice lo hi st p2 => cases lo <;> cases hi <;> cases st <;> simp [chk] at h
      | _ => simp [chk] at h
    | _ => simp [chk] at h
  | .tup _, _, _, _, x, _, _, h => by cases x <;> simp [chk] at h
  | .lst _, _, _, _, x, _, _, h => by cases x <;> simp [chk] at h
  | .dic0, _, _, _, x, _, _, h => by
    cases x with
    | Dict ks vs p => cases ks <;> cases vs <;> simp [chk] at h
    | _ => simp [chk] at h
  | .sset a, X, C, W, x, o, g, h => by
    cases x with
    | Call fn xs kws p =>
      cases fn with
      | Name y py =>
        rcases xs with _ | ⟨x1, _ | ⟨_, _⟩⟩ <;> rcases kws with _ | ⟨_, _⟩ <;> first | (simp [chk] at h; done) | skip
        cases x1 with
        | Call fn2 xs2 kws2 p2 =>
          cases fn2 with
          | Name y2 py2 =>
            rcases xs2 with _ | ⟨x2, _ | ⟨_, _⟩⟩ <;> rcases kws2 with _ | ⟨_, _⟩ <;> first | (simp [chk] at h; done) | skip
            simp only [chk, Bool.and_eq_true, decide_eq_true_eq] at h
            simp only [Good] at g
            obtain ⟨⟨⟨⟨⟨rfl, rfl⟩, h3⟩, h4⟩, h5⟩, h6⟩ := h
            exact pt_plain (den_sset o.calm (o.glo h3) (o.free _ (by decide)) (o.glo h4) (o.free _ (by decide)) h5 (pe_ok a x2 o g h6)) (by intro _; rfl)
          | _ => simp [chk] at h
        | _ => simp [chk] at h
      | _ => simp [chk] at h
    | _ => simp [chk] at h
  | .lc _ _ _ _ _, _, _, _, x, _, _, h => by
    cases x with
    | ListComp x1 gens scope p => rcases gens with _ | ⟨⟨u, i, ifs, isa⟩, _ | ⟨_, _⟩⟩ <;> simp [chk] at h
    | _ => simp [chk] at h
end
end
end MP

namespace MP
open PySem PySem.Spec PyProof.Rows L2
/-! ### statements -/
mutual
inductive S where
  | asg (tg : Tg) (e : E)
  | par (i j : Nat) (a b : E)
  | put (i : Nat) (k e : E)
  | app (i : Nat) (e : E)
  | ext (i : Nat) (e : E)
  | ins (i : Nat) (k e : E)
  | pop (i : Nat) (k : E)
  | ifs (c : E) (a b : Ss)
  | fors (tg : Tg) (it : It) (fg : List Nat) (body : Ss)
  | whl (fuel : SD → Nat) (c : E) (fg : List Nat) (body : Ss)
  | ret (e : E)
  | rse (c : Str)
inductive Ss where
  | nil
  | cons (s : S) (ss : Ss)
  | frz (i : Nat) (ss : Ss)
  | fgt (is : List Nat) (ss : Ss)
end
inductive Fl where
  | next (σ : SD) | ret (d : D) (k : Kd)
def putSlot (σ : SD) (i : Nat) (p : DK) : R SD := match p.2 with
  | .fz => .ok (σ.set i (some (p.1, false)))
  | .fr => .ok (σ.set i (some (p.1, true)))
  | .bo => .stuck
def asgD (σ : SD) (tg : Tg) (p : DK) : R SD := match tg with
  | .nm i => putSlot σ i p
  | .tp is => (notBo p).bind fun d => bindTg (.tp is) σ d
def ownAt (σ : SD) (i : Nat) : R D := match σ[i]? with
  | some (some (d, true)) => .ok d
  | _ => .stuck
def ownL (σ : SD) (i : Nat) : R (List D) := match σ[i]? with
  | some (some (.lst ds, true)) => .ok ds
  | _ => .stuck
def ownK (σ : SD) (i : Nat) : R (List (Str × D)) := match σ[i]? with
  | some (some (.dic ks, true)) => .ok ks
  | _ => .stuck
noncomputable def putD (d k v : D) : R D := match d, k with
  | .dic ks, .str s => grd (ks.length ≤ 1000000) (.ok (.dic (dput ks s v)))
  | .lst ds, .int i => rOpt (ixN ds.length i) fun j => .ok (.lst (ds.set j v))
  | _, _ => .stuck
noncomputable def appD (ds : List D) (v : D) : R D := grd (ds.length ≤ 1000000) (.ok (.lst (ds ++ [v])))
noncomputable def extD (ds : List D) (v : D) : R D := match v with
  | .lst es => grd (ds.length + es.length ≤ 1000000) (.ok (.lst (ds ++ es)))
  | _ => .stuck
noncomputable def insD (ds : List D) (k v : D) : R D := match k with
  | .int i => grd (ds.length ≤ 1000000 ∧ 0 ≤ i ∧ i < 1000000) (.ok (.lst (ds.take i.toNat ++ [v] ++ ds.drop i.toNat)))
  | _ => .stuck
noncomputable def popD (ks : List (Str × D)) (k : D) : R D := match k with
  | .str s => grd ((dget ks s).isSome = true) (.ok (.dic (ddrop ks s)))
  | _ => .stuck
def setOwn (σ : SD) (i : Nat) (d : D) : SD := σ.set i (some (d, true))
def freeze (σ : SD) (i : Nat) : SD := match σ[i]? with
  | some (some (d, true)) => σ.set i (some (d, false))
  | _ => σ
def exFor (step : D → SD → R Fl) (fg : List Nat) : List D → SD → R Fl
  | [], σ => .ok (.next (wipeD σ fg))
  | x :: xs, σ => (step x σ).bind fun r => match r with
    | .next σ2 => exFor step fg xs (wipeD σ2 fg)
    | .ret d k => .ok (.ret d k)
def exWhile (c : SD → R Bool) (body : SD → R Fl) (fg : List Nat) : Nat → SD → R Fl
  | 0, _ => .stuck
  | n + 1, σ => (c σ).bind fun b => if b then (body σ).bind fun r => (match r with
      | .next σ2 => exWhile c body fg n (wipeD σ2 fg)
      | .ret d k => .ok (.ret d k)) else .ok (.next (wipeD σ fg))
def retK : Kd → Kd
  | .bo => .fr
  | k => k
mutual
noncomputable def ex : S → SD → R Fl
  | .asg tg e, σ => (ev e σ).bind fun p => (asgD σ tg p).bind fun σ2 => .ok (.next σ2)
  | .par i j a b, σ => (ev a σ).bind fun p => (ev b σ).bind fun q => (notBo p).bind fun d => (notBo q).bind fun e => .ok (.next ((σ.set i (some (d, false))).set j (some (e, false))))
  | .put i k e, σ => (ev e σ).bind fun p => (notBo p).bind fun v => (ownAt σ i).bind fun d => (ev k σ).bind fun q => (putD d q.1 v).bind fun d2 => .ok (.next (setOwn σ i d2))
  | .app i e, σ => (ownL σ i).bind fun d => (ev e σ).bind fun p => (notBo p).bind fun v => (appD d v).bind fun d2 => .ok (.next (setOwn σ i d2))
  | .ext i e, σ => (ownL σ i).bind fun d => (ev e σ).bind fun p => (notBo p).bind fun v => (extD d v).bind fun d2 => .ok (.next (setOwn σ i d2))
  | .ins i k e, σ => (ownL σ i).bind fun d => (ev k σ).bind fun q => (ev e σ).bind fun p => (notBo p).bind fun v => (insD d q.1 v).bind fun d2 => .ok (.next (setOwn σ i d2))
  | .pop i k, σ => (ownK σ i).bind fun d => (ev k σ).bind fun q => (popD d q.1).bind fun d2 => .ok (.next (setOwn σ i d2))
  | .ifs c a b, σ => ((ev c σ).bind asTest).bind fun k => if k then exs a σ else exs b σ
  | .fors tg it fg body, σ => (evIt it σ).bind fun xs => exFor (fun x σ1 => (bindTg tg σ1 x).bind fun σ2 => exs body σ2) fg xs σ
  | .whl fuel c fg body, σ => exWhile (fun σ1 => (ev c σ1).bind asTest) (fun σ1 => exs body σ1) fg (fuel σ) σ
  | .ret e, σ => (ev e σ).bind fun p => .ok (.ret p.1 (retK p.2))
  | .rse c, _ => .err (.own c)
noncomputable def exs : Ss → SD → R Fl
  | .nil, σ => .ok (.next σ)
  | .cons s ss, σ => (ex s σ).bind fun r => match r with
    | .next σ2 => exs ss σ2
    | .ret d k => .ok (.ret d k)
  | .frz i ss, σ => exs ss (freeze σ i)
  | .fgt is ss, σ => exs ss (wipeD σ is)
end
/-- a def's value -/
noncomputable def runD (n : Nat) (body : Ss) (ds : List D) : R DK :=
  (exs body (ds.map (fun d => some (d, false)) ++ List.replicate (n - ds.length) none)).bind fun r => match r with
    | .next _ => .ok (.non, .fz)
    | .ret d k => .ok (d, k)
/-! ### the tree against the text -/
/-- y = [..] of one line: the stores are exchanged -/
def lcSwap (sc : Scope) (y : Str) (py : Pos) (scope : Scope) (pos : Pos) : Bool :=
  (match sc.names.lookup y with | some .local => true | _ => false) && py.line == pos.line && !(scope.names.any fun (n, k) => n == y && (k == .local || k == .cell))
def parB (C : SC) (x y : Str) (px py : Pos) (a b : Expr) : Bool :=
  (match C.sc.names.lookup x with | some .local => true | _ => false) && (match C.sc.names.lookup y with | some .local => true | _ => false) && px.line == py.line && decide (x ≠ y) &&
    !([a, b].all (foldedForSure 8)) && !([a, b].all (constantsAlone 8))
def tupVal : Expr → Expr → Bool
  | .Tuple _ _ _, .Tuple vs _ _ => vs.all (foldedForSure 8)
  | _, _ => true
def chkAsg (C : SC) (tg : Tg) (e : E) : Stmt → Bool
  | .Assign [t] v _ => okX v && chkTg C tg t && chk C false e v && tupVal t v
  | _ => false
def chkPar (C : SC) (i j : Nat) (a b : E) : Stmt → Bool
  | .Assign [.Tuple [.Name x px, .Name y py] _ _] (.Tuple [v, w] _ _) _ => decide (C.N[i]? = some x) && decide (C.N[j]? = some y) && decide (i ≠ j) && parB C x y px py v w && okX v && okX w && chk C false a v && chk C false b w
  | _ => false
def chkPut (C : SC) (i : Nat) (k e : E) : Stmt → Bool
  | .Assign [.Subscript (.Name y _) kx _] v _ => okX v && !isLC v && okX kx && decide (C.N[i]? = some y) && visB C.sc y && okN y && chk C false k kx && chk C false e v
  | _ => false
def chkM (C : SC) (nm : Str) (i : Nat) (e : E) : Stmt → Bool
  | .Expr (.Call (.Attribute (.Name y _) g apos) [v] [] cpos) _ => decide (g = nm) && apos.endLine == cpos.line && okX v && decide (C.N[i]? = some y) && visB C.sc y && okN y && chk C false e v
  | _ => false
def chkIns (C : SC) (i : Nat) (k e : E) : Stmt → Bool
  | .Expr (.Call (.Attribute (.Name y _) g apos) [kx, v] [] cpos) _ => decide (g = ("insert" : Str)) && apos.endLine == cpos.line && okX kx && okX v && decide (C.N[i]? = some y) && visB C.sc y && okN y && chk C false k kx && chk C false e v
  | _ => false
def chkRet (C : SC) (e : E) : Stmt → Bool
  | .Return (some x) _ => chk C false e x
  | _ => false
def chkRse (C : SC) (c : Str) : Stmt → Bool
  | .Raise (some (.Call (.Name x _) [.Constant (.str _) _ _] [] _)) none _ => decide (x = c) && gloB C.sc c && okN c
  | _ => false
mutual
def chkS (C : SC) : S → Stmt → Bool
  | .asg tg e, x => chkAsg C tg e x
  | .par i j a b, x => chkPar C i j a b x
  | .put i k e, x => chkPut C i k e x
  | .app i e, x => chkM C "append" i e x
  | .ext i e, x => chkM C "extend" i e x
  | .ins i k e, x => chkIns C i k e x
  | .pop i k, x => chkM C "pop" i k x
  | .ret e, x => chkRet C e x
  | .rse c, x => chkRse C c x
  | .ifs c a b, .If x as bs _ => chk C true c x && chkSs C a as && chkSs C b bs
  | .fors tg it _ body, .For t i bs [] _ => chkTg C tg t && chkIt C it i && notDS i && chkSs C body bs
  | .whl _ c _ body, .While x bs [] _ => chk C true c x && chkSs C body bs
  | _, _ => false
def chkSs (C : SC) : Ss → List Stmt → Bool
  | .nil, [] => true
  | .cons s ss, x :: xs => chkS C s x && chkSs C ss xs
  | .frz _ ss, xs => chkSs C ss xs
  | .fgt _ ss, xs => chkSs C ss xs
  | _, _ => false
end
end MP

namespace MP
open PySem PySem.Spec PyProof.Rows L2
/-! ### states of a body -/
structure SR (K : PySem.W.Frag) (F0 H0 : Hp) (σD : SD) (σ : List (Option V)) (F H : Hp) : Prop where
  sl : SL K σD σ F H
  x : Ext F0 H0 F H
  ow : ∀ a, Owned σD σ a → H0 a = none
section
variable {K : PySem.W.Frag} {mg : Str → Option Value} {W : WX} {σD : SD} {σ : List (Option V)} {F0 H0 F H F1 H1 : Hp} {Q : VK}
theorem SR.ext (s : SR K F0 H0 σD σ F H) (e : Ext F H F1 H1) : SR K F0 H0 σD σ F1 H1 := ⟨s.sl.ext e, s.x.trans e, s.ow⟩
theorem SL.forget1 (s : SL K σD σ F H) (i : Nat) : SL K (σD.set i none) σ F H where
  sub := s.sub
  fz := fun j e h => by
    by_cases hj : i = j
    · subst hj
      have hi : i < σD.length := by have := (List.getElem?_eq_some_iff.mp h).1; simpa using this
      rw [List.getElem?_set_self hi] at h; cases h
    · rw [List.getElem?_set_ne hj] at h; exact s.fz j e h
  ow := fun j e h => by
    by_cases hj : i = j
    · subst hj
      have hi : i < σD.length := by have := (List.getElem?_eq_some_iff.mp h).1; simpa using this
      rw [List.getElem?_set_self hi] at h; cases h
    · rw [List.getElem?_set_ne hj] at h; exact s.ow j e h
  dis := fun j l d e v h1 h2 h3 h4 => by
    have nj : i ≠ j := fun e => by
      subst e
      have hi : i < σD.length := by have := (List.getElem?_eq_some_iff.mp h1).1; simpa using this
      rw [List.getElem?_set_self hi] at h1; cases h1
    have nl : i ≠ l := fun e => by
      subst e
      have hi : i < σD.length := by have := (List.getElem?_eq_some_iff.mp h2).1; simpa using this
      rw [List.getElem?_set_self hi] at h2; cases h2
    rw [List.getElem?_set_ne nj] at h1
    rw [List.getElem?_set_ne nl] at h2
    exact s.dis j l d e v h1 h2 h3 h4
  len := by rw [List.length_set, s.len]
theorem SR.forget1 (s : SR K F0 H0 σD σ F H) (i : Nat) : SR K F0 H0 (σD.set i none) σ F H := ⟨s.sl.forget1 i, s.x, fun a o => by
  obtain ⟨j, d, h1, h2⟩ := o
  by_cases hj : i = j
  · subst hj
    have hi : i < σD.length := by have := (List.getElem?_eq_some_iff.mp h1).1; simpa using this
    rw [List.getElem?_set_self hi] at h1; cases h1
  · rw [List.getElem?_set_ne hj] at h1; exact s.ow a ⟨j, d, h1, h2⟩⟩
theorem SR.forget (s : SR K F0 H0 σD σ F H) : ∀ is : List Nat, SR K F0 H0 (wipeD σD is) σ F H
  | [] => s
  | i :: is => (SR.forget s is).forget1 i
theorem SR.put (s : SR K F0 H0 σD σ F H) {d : D} {v : V} (r : Rep K F d v) (i : Nat) : SR K F0 H0 (σD.set i (some (d, false))) (σ.set i (some v)) F H := ⟨s.sl.put r i, s.x, fun a o => by
  obtain ⟨j, e, h1, h2⟩ := o
  by_cases hj : i = j
  · subst hj
    have hi : i < σD.length := by have := (List.getElem?_eq_some_iff.mp h1).1; simpa using this
    rw [List.getElem?_set_self hi] at h1; cases h1
  · rw [List.getElem?_set_ne hj] at h1 h2; exact s.ow a ⟨j, e, h1, h2⟩⟩
/-- a slot takes a new object -/
theorem SL.own (s : SL K σD σ F H) {d : D} {a : Addr} (f : F a = none) (c : Cell K F H d a) (i : Nat) (n : ∀ j e, j ≠ i → σD[j]? = some (some (e, true)) → σ[j]? ≠ some (some (.ref a))) : SL K (σD.set i (some (d, true))) (σ.set i (some (.ref a))) F H where
  sub := s.sub
  fz := fun j e h => by
    by_cases hj : i = j
    · subst hj
      have hi : i < σD.length := by have := (List.getElem?_eq_some_iff.mp h).1; simpa using this
      rw [List.getElem?_set_self hi] at h; cases h
    · rw [List.getElem?_set_ne hj] at h ⊢; exact s.fz j e h
  ow := fun j e h => by
    by_cases hj : i = j
    · subst hj
      have hi : i < σD.length := by have := (List.getElem?_eq_some_iff.mp h).1; simpa using this
      rw [List.getElem?_set_self hi] at h
      cases h
      exact ⟨a, by rw [List.getElem?_set_self (by rw [s.len]; exact hi)], f, c⟩
    · rw [List.getElem?_set_ne hj] at h ⊢; exact s.ow j e h
  dis := fun j l d2 e v h1 h2 h3 h4 => by
    by_cases hj : i = j
    · subst hj
      by_cases hl : i = l
      · exact hl
      · have hi : i < σD.length := by have := (List.getElem?_eq_some_iff.mp h1).1; simpa using this
        rw [List.getElem?_set_self (by rw [s.len]; exact hi)] at h3
        cases h3
        rw [List.getElem?_set_ne hl] at h2 h4
        exact absurd h4 (n l e (fun z => hl z.symm) h2)
    · by_cases hl : i = l
      · subst hl
        have hi : i < σD.length := by have := (List.getElem?_eq_some_iff.mp h2).1; simpa using this
        rw [List.getElem?_set_self (by rw [s.len]; exact hi)] at h4
        cases h4
        rw [List.getElem?_set_ne hj] at h1 h3
        exact absurd h3 (n j d2 (fun z => hj z.symm) h1)
      · rw [List.getElem?_set_ne hj] at h1 h3
        rw [List.getElem?_set_ne hl] at h2 h4
        exact s.dis j l d2 e v h1 h2 h3 h4
  len := by rw [List.length_set, List.length_set, s.len]
theorem own_there (s : SL K σD σ F H) {j : Nat} {e : D} {a : Addr} (h1 : σD[j]? = some (some (e, true))) (h2 : σ[j]? = some (some (.ref a))) : ∃ o, H a = some o := (own_none s ⟨j, e, h1, h2⟩).2.elim fun _ c => c.there
theorem SR.own (s : SR K F0 H0 σD σ F H) (x : Ext F H F1 H1) {d : D} {v : V} (r : VR K σD σ F1 H H1 d .fr v) (i : Nat) : SR K F0 H0 (σD.set i (some (d, true))) (σ.set i (some v)) F1 H1 := by
  obtain ⟨a, rfl, f, h0, c⟩ := r
  have s1 := s.ext x
  refine ⟨s1.sl.own f c i fun j e hj h1 h2 => ?_, s1.x, fun b o => ?_⟩
  · obtain ⟨o, ho⟩ := own_there s.sl h1 h2
    rw [h0] at ho; cases ho
  · obtain ⟨j, e, h1, h2⟩ := o
    by_cases hj : i = j
    · subst hj
      have hi : i < σD.length := by have := (List.getElem?_eq_some_iff.mp h1).1; simpa using this
      rw [List.getElem?_set_self (by rw [s.sl.len]; exact hi)] at h2
      cases h2
      exact none_back s.x.s h0
    · rw [List.getElem?_set_ne hj] at h1 h2
      exact s.ow b ⟨j, e, h1, h2⟩
/-- an owned object changes -/
theorem SR.change (s : SR K F0 H0 σD σ F H) {i : Nat} {d d2 : D} {a : Addr} {o : HO} (h1 : σD[i]? = some (some (d, true))) (h2 : σ[i]? = some (some (.ref a))) (c : Cell K F (upd H a o) d2 a) : SR K F0 H0 (σD.set i (some (d2, true))) σ F (upd H a o) := by
  have ow : Owned σD σ a := ⟨i, d, h1, h2⟩
  have fa : F a = none := (own_none s.sl ow).1
  have h0 : H0 a = none := s.ow a ow
  have hi : i < σD.length := (List.getElem?_eq_some_iff.mp h1).1
  have e0 : σ.set i (some (.ref a)) = σ := by
    apply List.ext_getElem?
    intro j
    by_cases hj : i = j
    · subst hj
      rw [List.getElem?_set_self (by rw [s.sl.len]; exact hi), h2]
    · rw [List.getElem?_set_ne hj]
  have s2 : SL K (σD.set i none) σ F (upd H a o) := by
    have s1 := s.sl.forget1 i
    refine ⟨fun b u q => by rw [upd_ne (ne_of_none q fa)]; exact s1.sub _ _ q, s1.fz, fun j e h => ?_, s1.dis, s1.len⟩
    obtain ⟨b, g1, g2, g3⟩ := s1.ow j e h
    refine ⟨b, g1, g2, g3.mono (Sub.refl F) fun u q => ?_⟩
    have hb : b ≠ a := by
      intro z
      subst z
      by_cases hj : i = j
      · subst hj
        rw [List.getElem?_set_self hi] at h; cases h
      · rw [List.getElem?_set_ne hj] at h
        exact hj (s.sl.dis i j d e _ h1 h h2 g1)
    rw [upd_ne hb]; exact q
  have s3 := s2.own (d := d2) fa c i fun j e hj h g => by
    have hj' : i ≠ j := fun z => hj z.symm
    rw [List.getElem?_set_ne hj'] at h
    exact hj' (s.sl.dis i j d e _ h1 h h2 g)
  rw [List.set_set, e0] at s3
  refine ⟨s3, ⟨s.x.f, s3.sub, fun b u q => by rw [upd_ne (ne_of_none q h0)]; exact s.x.s _ _ q, s.x.n⟩, fun b ob => ?_⟩
  obtain ⟨j, e, g1, g2⟩ := ob
  by_cases hj : i = j
  · subst hj
    rw [h2] at g2
    cases g2
    exact h0
  · rw [List.getElem?_set_ne hj] at g1
    exact s.ow b ⟨j, e, g1, g2⟩
theorem SR.freeze (s : SR K F0 H0 σD σ F H) (i : Nat) : ∃ F2, SR K F0 H0 (MP.freeze σD i) σ F2 H := by
  unfold MP.freeze
  cases e : σD[i]? with
  | none => exact ⟨F, s⟩
  | some o =>
    cases o with
    | none => exact ⟨F, s⟩
    | some p =>
      obtain ⟨d, b⟩ := p
      cases b with
      | false => exact ⟨F, s⟩
      | true =>
        obtain ⟨a, h2, fa, c⟩ := s.sl.ow i d e
        have ow : Owned σD σ a := ⟨i, d, e, h2⟩
        have h0 : H0 a = none := s.ow a ow
        have hi : i < σD.length := (List.getElem?_eq_some_iff.mp e).1
        have e0 : σ.set i (some (.ref a)) = σ := by
          apply List.ext_getElem?
          intro j
          by_cases hj : i = j
          · subst hj
            rw [List.getElem?_set_self (by rw [s.sl.len]; exact hi), h2]
          · rw [List.getElem?_set_ne hj]
        obtain ⟨o, ho, r⟩ := cell_rep c fa
        have su : Sub F (upd F a o) := fun b u q => by rw [upd_ne (ne_of_none q fa)]; exact q
        have sh : Sub (upd F a o) H := fun b u q => by
          by_cases hb : b = a
          · subst hb; rw [upd_same] at q; cases q; exact ho
          · rw [upd_ne hb] at q; exact s.sl.sub _ _ q
        have s1 := s.sl.forget1 i
        have s2 : SL K (σD.set i none) σ (upd F a o) H := by
          refine ⟨sh, fun j e h => ?_, fun j e' h => ?_, s1.dis, s1.len⟩
          · obtain ⟨v, g1, g2⟩ := s1.fz j e h
            exact ⟨v, g1, Rep.mono su _ _ g2⟩
          · obtain ⟨b, g1, g2, g3⟩ := s1.ow j e' h
            have hb : b ≠ a := by
              intro z
              subst z
              by_cases hj : i = j
              · subst hj
                rw [List.getElem?_set_self hi] at h; cases h
              · rw [List.getElem?_set_ne hj] at h
                exact hj (s.sl.dis i j d e' _ e h h2 g1)
            exact ⟨b, g1, by rw [upd_ne hb]; exact g2, g3.mono su fun u q => q⟩
        have s3 := s2.put r i
        rw [List.set_set, e0] at s3
        refine ⟨upd F a o, s3, ⟨s.x.f.trans su, sh, s.x.s, fun b u q => ?_⟩, fun b ob => ?_⟩
        · by_cases hb : b = a
          · subst hb; exact .inr h0
          · rw [upd_ne hb] at q; exact s.x.n _ _ q
        · obtain ⟨j, e', g1, g2⟩ := ob
          by_cases hj : i = j
          · subst hj
            rw [List.getElem?_set_self hi] at g1; cases g1
          · rw [List.getElem?_set_ne hj] at g1
            exact s.ow b ⟨j, e', g1, g2⟩
end
/-! ### what a statement must meet -/
section
variable (K : PySem.W.Frag) (mg : Str → Option Value) (W : WX) (F0 H0 : Hp)
def PostS (Dn : Ends) (r : R Fl) : Prop := match r with
  | .ok (.next σD) => ∀ σ F H, SR K F0 H0 σD σ F H → Dn.nx σ H
  | .ok (.ret d k) => ∀ F H v, Ext F0 H0 F H → VR K [] [] F H0 H d k v → Dn.rt v H
  | .err x => ∀ σ F H cls dd, Ext F0 H0 F H → ErrR K mg F H x cls dd → W cls dd σ H
  | .stuck => False
def denS (s : S) : TS := fun Dn σ H => ∃ σD F, SR K F0 H0 σD σ F H ∧ PostS K mg W F0 H0 Dn (ex s σD)
def denSs (s : Ss) : TS := fun Dn σ H => ∃ σD F, SR K F0 H0 σD σ F H ∧ PostS K mg W F0 H0 Dn (exs s σD)
end
theorem _root_.L2.PS.imp {X : Cx} {s : Stmt} {t t' : TS} (h : PS X s t) (w : ∀ D σ H, t' D σ H → t D σ H) : PS X s t' := ⟨fun pins s σ H D I q => h.run pins s σ H D I (w D σ H q)⟩
theorem _root_.L2.PSs.imp {X : Cx} {s : List Stmt} {t t' : TS} (h : PSs X s t) (w : ∀ D σ H, t' D σ H → t D σ H) : PSs X s t' := ⟨fun pins s σ H D I q => h.run pins s σ H D I (w D σ H q)⟩
theorem _root_.L2.PS.or {X : Cx} {s : Stmt} {t t' : TS} (h : PS X s t) (h' : PS X s t') : PS X s (fun D σ H => t D σ H ∨ t' D σ H) := ⟨fun pins s σ H D I q => q.elim (h.run pins s σ H D I) (h'.run pins s σ H D I)⟩
section
variable {K : PySem.W.Frag} {mg : Str → Option Value} {W : WX} {σD : SD} {σ : List (Option V)} {F0 H0 F H F1 H1 : Hp} {Dn : Ends}
/-- an expression ahead of a statement's rest -/
theorem postS_bind {α : Type} {r : R α} {f : α → R Fl} {P' : α → Prop} (s : SR K F0 H0 σD σ F H) (h : PostS K mg W F0 H0 Dn (r.bind f)) (go : ∀ a, r = .ok a → PostS K mg W F0 H0 Dn (f a) → P' a) : PostR K mg W σ F H r P' := by
  cases r with
  | ok a => exact go a rfl h
  | err y => exact fun F' H' cls dd e r => h σ F' H' cls dd (s.x.trans e) r
  | stuck => exact h.elim
theorem denS_in {a : E} {f : DK → R Fl} {Q' : VK} (s : SR K F0 H0 σD σ F H) (h : PostS K mg W F0 H0 Dn ((ev a σD).bind f))
    (go : ∀ p F1 H1 v, ev a σD = .ok p → Ext F H F1 H1 → SR K F0 H0 σD σ F1 H1 → VF K σD σ F1 p.1 p.2 v → PostS K mg W F0 H0 Dn (f p) → Q' v H1) : den K mg W a σ H Q' :=
  ⟨σD, F, s.sl, postS_bind s h fun p ep hp F' H' v e r => by
    obtain ⟨F2, e2, su, vf⟩ := r.frozen e
    exact go p F2 H' v ep e2 (s.ext e2) vf hp⟩
theorem denS_inT {a : E} {f : Bool → R Fl} {Q' : Bool → Hp → Prop} (s : SR K F0 H0 σD σ F H) (h : PostS K mg W F0 H0 Dn (((ev a σD).bind asTest).bind f))
    (go : ∀ p F1 H1, Ext F H F1 H1 → SR K F0 H0 σD σ F1 H1 → PostS K mg W F0 H0 Dn (f p) → Q' p H1) : denT K mg W a σ H Q' :=
  ⟨σD, F, s.sl, postS_bind s h fun p ep hp F' H' e => go p F' H' e (s.ext e) hp⟩
theorem postS_ok {α : Type} {r : R α} {f : α → R Fl} (hne : ∀ y, r ≠ .err y) (h : PostS K mg W F0 H0 Dn (r.bind f)) : ∃ a, r = .ok a ∧ PostS K mg W F0 H0 Dn (f a) := by
  cases r with
  | ok a => exact ⟨a, rfl, h⟩
  | err y => exact absurd rfl (hne y)
  | stuck => exact h.elim
theorem notBo_ne {p : DK} (y : Exn) : notBo p ≠ .err y := by
  obtain ⟨d, k⟩ := p
  cases k <;> simp [notBo]
theorem ownAt_ne {σD : SD} {i : Nat} (y : Exn) : ownAt σD i ≠ .err y := by
  unfold ownAt
  split <;> simp
theorem ownAt_ok {σD : SD} {i : Nat} {d : D} (h : ownAt σD i = .ok d) : σD[i]? = some (some (d, true)) := by
  unfold ownAt at h
  split at h
  · cases h; assumption
  · cases h
theorem notBo_rep {p : DK} {d : D} {v : V} (h : notBo p = .ok d) (v1 : VF K σD σ F p.1 p.2 v) : p.1 = d ∧ Rep K F d v := by
  obtain ⟨e, k⟩ := p
  cases k <;> simp [notBo] at h
  · subst h; exact ⟨rfl, v1⟩
  · subst h; exact ⟨rfl, v1⟩
theorem grd_ne {α : Type} {p : Prop} {r : R α} (h : ∀ y, r ≠ .err y) (y : Exn) : grd p r ≠ .err y := by
  by_cases hp : p
  · rw [grd_pos hp]; exact h y
  · rw [grd_neg hp]; simp
theorem grd_ok {α : Type} {p : Prop} {r : R α} {a : α} (h : grd p r = .ok a) : p ∧ r = .ok a := by
  by_cases hp : p
  · rw [grd_pos hp] at h; exact ⟨hp, h⟩
  · rw [grd_neg hp] at h; cases h
end
end MP

namespace MP
open PySem PySem.Spec PyProof.Rows L2
/-! ### a class of one's own that is raised with a text -/
structure ExcOk (K : PySem.W.Frag) (mg : Str → Option Value) (c : Str) : Prop where
  ok : ∃ Ca : Addr, mg c = some (.ref Ca) ∧ PySem.W.excIn K Ca [.type "ValueError", .type "Exception", .type "BaseException", .type "object"] "ValueError.__new__" = true ∧ PySem.W.keepIn K (.ref Ca) = true ∧
    PySem.W.subIn K (.ref Ca) (.type "BaseException") = some true ∧ PySem.W.typeIn K (.ref Ca) = some (.type "type")
structure XOkS (X : Cx) (C : SC) (k : Nat) (W : WX) : Prop where
  o : XOk X C k W
  top : C.top = true
  kind : X.env.scope.kind = .function
  pass : PassesOwn (model X.prog X.w) X.A X.env X.xe
section
variable (K : PySem.W.Frag) (mg : Str → Option Value) (W : WX)
def dS (s : S) : TS := fun Dn σ H => ∃ F0 H0, denS K mg W F0 H0 s Dn σ H
def dSs (s : Ss) : TS := fun Dn σ H => ∃ F0 H0, denSs K mg W F0 H0 s Dn σ H
end
section
variable (cok : Str → Nat → M → Prop) (eok : Str → Prop)
mutual
def GoodS : S → Prop
  | .asg _ e => Good cok e
  | .par _ _ a b => Good cok a ∧ Good cok b
  | .put _ k e => Good cok k ∧ Good cok e
  | .app _ e => Good cok e
  | .ext _ e => Good cok e
  | .ins _ k e => Good cok k ∧ Good cok e
  | .pop _ k => Good cok k
  | .ifs c a b => Good cok c ∧ GoodSs a ∧ GoodSs b
  | .fors _ it _ body => GoodIt cok it ∧ GoodSs body
  | .whl _ c _ body => Good cok c ∧ GoodSs body
  | .ret e => Good cok e
  | .rse c => eok c
def GoodSs : Ss → Prop
  | .nil => True
  | .cons s ss => GoodS s ∧ GoodSs ss
  | .frz _ ss => GoodSs ss
  | .fgt _ ss => GoodSs ss
end
end
section
variable {K : PySem.W.Frag} {mg : Str → Option Value} {W : WX} {σD : SD} {σ : List (Option V)} {F0 H0 F H F1 H1 : Hp} {Dn : Ends}
theorem slotsR_ok : ∀ {is : List Nat} {ds : List D} {vs : List V} {σD σD2 : SD} {σ : List (Option V)} {Q : L2.St → Hp → Prop}, bindSlots σD is ds = .ok σD2 → SR K F0 H0 σD σ F H → Reps K F ds vs →
    (∀ σ2, SR K F0 H0 σD2 σ2 F H → Q σ2 H) → gSlots is vs σ H Q
  | [], [], _, _, _, σ, _, h, s, r, q => by
    simp only [Reps] at r
    cases h
    exact ⟨r, q σ s⟩
  | [], _ :: _, _, _, _, _, _, h, _, _, _ => by simp [bindSlots] at h
  | _ :: _, [], _, _, _, _, _, h, _, _, _ => by simp [bindSlots] at h
  | i :: is, d :: ds, _, σD, σD2, σ, Q, h, s, r, q => by
    simp only [Reps] at r
    obtain ⟨v, vr, rfl, r1, r2⟩ := r
    simp only [bindSlots] at h
    exact ⟨v, vr, rfl, slotsR_ok h (s.put r1 i) r2 q⟩
theorem bindSlots_len : ∀ {is : List Nat} {ds : List D} {σD σD2 : SD}, bindSlots σD is ds = .ok σD2 → is.length = ds.length
  | [], [], _, _, _ => rfl
  | [], _ :: _, _, _, h => by simp [bindSlots] at h
  | _ :: _, [], _, _, h => by simp [bindSlots] at h
  | i :: is, d :: ds, σD, σD2, h => by simp only [bindSlots] at h; simp [bindSlots_len h]
theorem tgR_ok {tg : Tg} {d : D} {v : V} {σD2 : SD} {Q : L2.St → Hp → Prop} (h : bindTg tg σD d = .ok σD2) (s : SR K F0 H0 σD σ F H) (r : Rep K F d v)
    (q : ∀ σ2, SR K F0 H0 σD2 σ2 F H → Q σ2 H) : gTg K tg v σ H Q := by
  cases tg with
  | nm i =>
    simp only [bindTg] at h
    cases h
    exact q _ (s.put r i)
  | tp is =>
    cases d <;> simp only [bindTg] at h <;> try cases h
    rename_i ds
    simp only [Rep] at r
    obtain ⟨a, vs, rfl, tf, rr⟩ := r
    exact ⟨a, vs, rfl, s.sl.sub.sqt tf.sqt, by rw [rr.length, bindSlots_len h], slotsR_ok h s rr q⟩
theorem bindSlots_ne : ∀ {is : List Nat} {ds : List D} {σD : SD} (y : Exn), bindSlots σD is ds ≠ .err y
  | [], [], _, _ => by simp [bindSlots]
  | [], _ :: _, _, _ => by simp [bindSlots]
  | _ :: _, [], _, _ => by simp [bindSlots]
  | i :: is, d :: ds, σD, y => by simp only [bindSlots]; exact bindSlots_ne y
theorem bindTg_ne {tg : Tg} {d : D} (y : Exn) : bindTg tg σD d ≠ .err y := by
  cases tg with
  | nm i => simp [bindTg]
  | tp is =>
    cases d <;> simp only [bindTg] <;> first | (simp; done) | exact bindSlots_ne y
/-! ### the statements' readings -/
theorem asg_imp {tg : Tg} {e : E} (hh : denS K mg W F0 H0 (.asg tg e) Dn σ H) : tAsg (den K mg W e) (gTg K tg) Dn σ H := by
  obtain ⟨σD, F, s, h⟩ := hh
  simp only [ex] at h
  refine ⟨σD, F, s.sl, postS_bind s h fun p _ hp F1 H1 v e1 r => ?_⟩
  obtain ⟨d, k⟩ := p
  cases tg with
  | nm i =>
    cases k with
    | bo => exact hp.elim
    | fz => exact hp _ F1 H1 ((s.ext e1).put r i)
    | fr => exact hp _ F1 H1 (s.own e1 r i)
  | tp is =>
    obtain ⟨F2, e2, su, vf⟩ := r.frozen e1
    simp only [asgD, MP.R.bind_assoc] at hp
    obtain ⟨d', ed, hp⟩ := postS_ok notBo_ne hp
    obtain ⟨rfl, rd⟩ := notBo_rep ed vf
    obtain ⟨σD2, eb, hp⟩ := postS_ok bindTg_ne hp
    exact tgR_ok eb (s.ext e2) rd fun σ2 s2 => hp σ2 F2 H1 s2
theorem par_imp {i j : Nat} {a b : E} (hh : denS K mg W F0 H0 (.par i j a b) Dn σ H) : tPar i j (tCons (den K mg W a) (tCons (den K mg W b) tNil)) Dn σ H := by
  obtain ⟨σD, F, s, h⟩ := hh
  simp only [ex] at h
  refine denS_in s h fun p F1 H1 v _ e1 s1 v1 h1 => ?_
  refine denS_in s1 h1 fun q F2 H2 u _ e2 s2 v2 h2 => ?_
  obtain ⟨d, ed, h2⟩ := postS_ok notBo_ne h2
  obtain ⟨e, ee, h2⟩ := postS_ok notBo_ne h2
  obtain ⟨rfl, rd⟩ := notBo_rep ed (v1.ext e2.f)
  obtain ⟨rfl, re⟩ := notBo_rep ee v2
  exact ⟨v, u, rfl, h2 _ F2 H2 ((s2.put rd i).put re j)⟩
theorem put_imp {i : Nat} {k e : E} (hh : denS K mg W F0 H0 (.put i k e) Dn σ H) : sDPut (tVar i) (den K mg W k) (den K mg W e) Dn σ H ∨ tAsg (den K mg W e) (gSub (tVar i) (den K mg W k) rSetL) Dn σ H := by
  obtain ⟨σD, F, s, h⟩ := hh
  simp only [ex] at h
  by_cases hd : ∃ ks, σD[i]? = some (some (.dic ks, true))
  · left
    obtain ⟨ks, hi⟩ := hd
    refine denS_in s h fun p F1 H1 v _ e1 s1 v1 h1 => ?_
    obtain ⟨vd, ed, h1⟩ := postS_ok notBo_ne h1
    obtain ⟨rfl, rd⟩ := notBo_rep ed v1
    obtain ⟨d, eo, h1⟩ := postS_ok ownAt_ne h1
    have eo := ownAt_ok eo
    rw [hi] at eo
    cases eo
    obtain ⟨a, hσ, fa, c⟩ := s1.sl.ow i _ hi
    refine ⟨_, hσ, ?_⟩
    refine denS_in s1 h1 fun q F2 H2 u _ e2 s2 v2 h2 => ?_
    obtain ⟨kd, kk⟩ := q
    rcases kd with _ | _ | _ | key | _ | _ | _ | _ <;> simp only [putD] at h2 <;> try exact False.elim h2
    · skip
      obtain ⟨d2, eg, h2⟩ := postS_ok (grd_ne fun y => by simp) h2
      obtain ⟨g, eg⟩ := grd_ok eg
      cases eg
      obtain ⟨a', hσ', fa', c'⟩ := s2.sl.ow i _ hi
      rw [hσ] at hσ'
      cases hσ'
      obtain ⟨vs, hH, r⟩ := c'
      rw [seen_str (v2.seen s2.sl)]
      refine ⟨a, upd H2 a (.dK (putK vs (Sum.inr key) v)), rfl, DPut.k (k := Sum.inr key) hH (by rw [r.length, sizeLine_eq]; omega), ?_⟩
      exact h2 σ F2 _ (s2.change hi hσ ⟨_, upd_same, RepKs.put (Rep.mono e2.f _ _ rd) r⟩)
  · right
    refine denS_in s h fun p F1 H1 v _ e1 s1 v1 h1 => ?_
    obtain ⟨vd, ed, h1⟩ := postS_ok notBo_ne h1
    obtain ⟨rfl, rd⟩ := notBo_rep ed v1
    obtain ⟨d, eo, h1⟩ := postS_ok ownAt_ne h1
    have hi := ownAt_ok eo
    obtain ⟨a, hσ, fa, c⟩ := s1.sl.ow i _ hi
    refine ⟨_, hσ, ?_⟩
    refine denS_in s1 h1 fun q F2 H2 u _ e2 s2 v2 h2 => ?_
    obtain ⟨kd, kk⟩ := q
    cases d <;> cases kd <;> simp only [putD] at h2 <;> try exact False.elim h2
    case dic.str ks _ => exact absurd ⟨_, hi⟩ hd
    case lst.int ds ix _ =>
      obtain ⟨a', hσ', fa', c'⟩ := s2.sl.ow i _ hi
      rw [hσ] at hσ'
      cases hσ'
      obtain ⟨vs, hH, r⟩ := c'
      cases ei : ixN ds.length ix with
      | none => rw [ei] at h2; exact h2.elim
      | some j =>
        rw [ei] at h2
        exact ⟨a, vs, ix, j, rfl, seen_int (v2.seen s2.sl), hH, by rw [r.length]; exact ei, h2 σ F2 _ (s2.change hi hσ ⟨_, upd_same, Reps.set j (Rep.mono e2.f _ _ rd) r⟩)⟩
theorem ownL_ne {σD : SD} {i : Nat} (y : Exn) : ownL σD i ≠ .err y := by
  unfold ownL
  split <;> simp
theorem ownL_ok {σD : SD} {i : Nat} {ds : List D} (h : ownL σD i = .ok ds) : σD[i]? = some (some (.lst ds, true)) := by
  unfold ownL at h
  split at h
  · cases h; assumption
  · cases h
theorem ownK_ne {σD : SD} {i : Nat} (y : Exn) : ownK σD i ≠ .err y := by
  unfold ownK
  split <;> simp
theorem ownK_ok {σD : SD} {i : Nat} {ds : List (Str × D)} (h : ownK σD i = .ok ds) : σD[i]? = some (some (.dic ds, true)) := by
  unfold ownK at h
  split at h
  · cases h; assumption
  · cases h
theorem app_imp {i : Nat} {e : E} (hh : denS K mg W F0 H0 (.app i e) Dn σ H) : tDrop (tBM K "list" rAppend (tVar i) (tCons (den K mg W e) tNil)) Dn σ H := by
  obtain ⟨σD, F, s, h⟩ := hh
  simp only [ex] at h
  obtain ⟨ds, eo, h1⟩ := postS_ok ownL_ne h
  have hi := ownL_ok eo
  obtain ⟨a, hσ, fa, vs, hH, r⟩ := s.sl.ow i _ hi
  refine ⟨_, hσ, .inl ⟨rfl, vs, SqL.of hH⟩, ?_⟩
  refine denS_in s h1 fun p F1 H1 v _ e1 s1 v1 h2 => ?_
  obtain ⟨vd, ed, h2⟩ := postS_ok notBo_ne h2
  obtain ⟨rfl, rd⟩ := notBo_rep ed v1
  simp only [appD] at h2
  obtain ⟨d2, eg, h2⟩ := postS_ok (grd_ne fun y => by simp) h2
  obtain ⟨g, eg⟩ := grd_ok eg
  cases eg
  have hH1 := e1.s _ _ hH
  exact ⟨a, vs, v, rfl, rfl, hH1, by rw [r.length, sizeLine_eq]; omega, h2 σ F1 _ (s1.change hi hσ ⟨_, upd_same, (Reps.mono e1.f _ _ r).append (Reps.cons rd Reps.nil)⟩)⟩
theorem ext_imp {i : Nat} {e : E} (hh : denS K mg W F0 H0 (.ext i e) Dn σ H) : tDrop (tBM K "list" rExtend (tVar i) (tCons (den K mg W e) tNil)) Dn σ H := by
  obtain ⟨σD, F, s, h⟩ := hh
  simp only [ex] at h
  obtain ⟨ds, eo, h1⟩ := postS_ok ownL_ne h
  have hi := ownL_ok eo
  obtain ⟨a, hσ, fa, vs, hH, r⟩ := s.sl.ow i _ hi
  refine ⟨_, hσ, .inl ⟨rfl, vs, SqL.of hH⟩, ?_⟩
  refine denS_in s h1 fun p F1 H1 v _ e1 s1 v1 h2 => ?_
  obtain ⟨vd, ed, h2⟩ := postS_ok notBo_ne h2
  obtain ⟨rfl, rd⟩ := notBo_rep ed v1
  cases hp : p.1 <;> rw [hp] at h2 rd <;> simp only [extD] at h2 <;> try exact False.elim h2
  rename_i es
  simp only [Rep] at rd
  obtain ⟨b, zs, rfl, qb, rz⟩ := rd
  obtain ⟨d2, eg, h2⟩ := postS_ok (grd_ne fun y => by simp) h2
  obtain ⟨g, eg⟩ := grd_ok eg
  cases eg
  have hH1 := e1.s _ _ hH
  exact ⟨a, b, vs, zs, rfl, rfl, hH1, s1.sl.sub _ _ qb, by rw [r.length, rz.length, sizeLine_eq]; omega, h2 σ F1 _ (s1.change hi hσ ⟨_, upd_same, (Reps.mono e1.f _ _ r).append rz⟩)⟩
def rIns : V → List V → Hp → VK → Prop := fun x vs H Q => ∃ (l : Addr) (xs : List V) (i : Int) (y : V), x = .ref l ∧ vs = [.int i, y] ∧ H l = some (.lst xs) ∧ xs.length < sizeLine ∧ 0 ≤ i ∧ i < 2 ^ 63 ∧
    Q .non (upd H l (.lst (xs.take i.toNat ++ [y] ++ xs.drop i.toNat)))
theorem ins_imp {i : Nat} {k e : E} (hh : denS K mg W F0 H0 (.ins i k e) Dn σ H) : tDrop (tBM K "list" rIns (tVar i) (tCons (den K mg W k) (tCons (den K mg W e) tNil))) Dn σ H := by
  obtain ⟨σD, F, s, h⟩ := hh
  simp only [ex] at h
  obtain ⟨ds, eo, h1⟩ := postS_ok ownL_ne h
  have hi := ownL_ok eo
  obtain ⟨a, hσ, fa, vs, hH, r⟩ := s.sl.ow i _ hi
  refine ⟨_, hσ, .inl ⟨rfl, vs, SqL.of hH⟩, ?_⟩
  refine denS_in s h1 fun q F1 H1 u eq1 e1 s1 v1 h2 => ?_
  refine denS_in s1 h2 fun p F2 H2 v eq2 e2 s2 v2 h3 => ?_
  obtain ⟨vd, ed, h2⟩ := postS_ok notBo_ne h3
  clear h3
  obtain ⟨rfl, rd⟩ := notBo_rep ed v2
  have w1 := (v1.ext e2.f).seen s2.sl
  obtain ⟨kd, kk⟩ := q
  rcases kd with _ | _ | j | _ | _ | _ | _ | _ <;> simp only [insD] at h2 <;> try exact False.elim h2
  · skip
    obtain ⟨d2, eg, h2⟩ := postS_ok (grd_ne fun y => by simp) h2
    obtain ⟨g, eg⟩ := grd_ok eg
    cases eg
    have hH1 := e2.s _ _ (e1.s _ _ hH)
    have r2 := Reps.mono e2.f _ _ (Reps.mono e1.f _ _ r)
    exact ⟨a, vs, j, v, rfl, by rw [seen_int w1], hH1, by rw [r.length, sizeLine_eq]; omega, g.2.1, by omega, h2 σ F2 _ (s2.change hi hσ ⟨_, upd_same, (((Reps.take j.toNat r2).append (Reps.cons rd Reps.nil))).append (Reps.drop j.toNat r2)⟩)⟩
theorem pop_imp {i : Nat} {k : E} (hh : denS K mg W F0 H0 (.pop i k) Dn σ H) : tDrop (tDPop1 (tVar i) (den K mg W k)) Dn σ H := by
  obtain ⟨σD, F, s, h⟩ := hh
  simp only [ex] at h
  obtain ⟨ds, eo, h1⟩ := postS_ok ownK_ne h
  have hi := ownK_ok eo
  obtain ⟨a, hσ, fa, vs, hH, r⟩ := s.sl.ow i _ hi
  refine ⟨_, hσ, a, rfl, .inl ⟨vs, .inl hH⟩, ?_⟩
  refine denS_in s h1 fun q F1 H1 u eq1 e1 s1 v1 h2 => ?_
  have w1 := v1.seen s1.sl
  obtain ⟨kd, kk⟩ := q
  rcases kd with _ | _ | _ | key | _ | _ | _ | _ <;> simp only [popD] at h2 <;> try exact False.elim h2
  · skip
    obtain ⟨d2, eg, h2⟩ := postS_ok (grd_ne fun y => by simp) h2
    obtain ⟨g, eg⟩ := grd_ok eg
    cases eg
    have hH1 := e1.s _ _ hH
    have r1 := RepKs.mono e1.f _ _ r
    cases eg : dget ds key with
    | none => rw [eg] at g; cases g
    | some dv =>
      rcases r1.val key with ⟨d, v, q1, q2, q3⟩ | ⟨q1, q2⟩
      · exact ⟨vs, Sum.inr key, v, hH1, seen_str w1, q2, h2 σ F1 _ (s1.change hi hσ ⟨_, upd_same, r1.drop key⟩)⟩
      · rw [eg] at q1; cases q1
/-! ### ends of a body -/
theorem ret_imp {e : E} (hh : denS K mg W F0 H0 (.ret e) Dn σ H) : tRet (den K mg W e) Dn σ H := by
  obtain ⟨σD, F, s, h⟩ := hh
  simp only [ex] at h
  refine ⟨σD, F, s.sl, postS_bind s h fun p _ hp F1 H1 v e1 r => ?_⟩
  obtain ⟨d, k⟩ := p
  have s1 := s.ext e1
  cases k with
  | fz => exact hp F1 H1 v s1.x r
  | fr =>
    obtain ⟨a, rfl, f, h0, c⟩ := r
    exact hp F1 H1 _ s1.x ⟨a, rfl, f, none_back s.x.s h0, c⟩
  | bo =>
    obtain ⟨i, g1, g2⟩ := r
    obtain ⟨a, g3, g4, g5⟩ := s1.sl.ow i d g1
    rw [g2] at g3
    cases g3
    exact hp F1 H1 _ s1.x ⟨a, rfl, g4, s1.ow a ⟨i, d, g1, g2⟩, g5⟩
theorem rse_imp {c : Str} {Ca : Addr} (hc : mg c = some (.ref Ca)) (hh : denS K mg W F0 H0 (.rse c) Dn σ H) : W (.ref Ca) none σ H := by
  obtain ⟨σD, F, s, h⟩ := hh
  simp only [ex] at h
  exact h σ F H _ _ s.x ⟨hc, rfl⟩
theorem ifs_imp {c : E} {a b : Ss} (hh : denS K mg W F0 H0 (.ifs c a b) Dn σ H) : tIfS (denT K mg W c) (dSs K mg W a) (dSs K mg W b) Dn σ H := by
  obtain ⟨σD, F, s, h⟩ := hh
  simp only [ex] at h
  refine denS_inT s h fun p F1 H1 e1 s1 h1 => ?_
  cases p with
  | true => exact ⟨F0, H0, σD, F1, s1, h1⟩
  | false => exact ⟨F0, H0, σD, F1, s1, h1⟩
theorem whl_imp {fuel : SD → Nat} {c : E} {fg : List Nat} {body : Ss} (hh : denS K mg W F0 H0 (.whl fuel c fg body) Dn σ H) : tWhile (denT K mg W c) (dSs K mg W body) Dn σ H := by
  obtain ⟨σD, F, s, h⟩ := hh
  simp only [ex] at h
  refine ⟨fun n σ H => ∃ σD F, SR K F0 H0 σD σ F H ∧ PostS K mg W F0 H0 Dn (exWhile (fun σ1 => (ev c σ1).bind asTest) (fun σ1 => exs body σ1) fg n σD), ⟨_, σD, F, s, h⟩, ?_⟩
  rintro n σ H ⟨σD, F, s, h⟩
  cases n with
  | zero => exact h.elim
  | succ n =>
    simp only [exWhile] at h
    refine denS_inT s h fun p F1 H1 e1 s1 h1 => ?_
    cases p with
    | false => exact h1 σ F1 H1 (s1.forget fg)
    | true =>
      refine ⟨fun σ H => ∃ σD F, SR K F0 H0 σD σ F H ∧ PostS K mg W F0 H0 Dn (exWhile (fun σ1 => (ev c σ1).bind asTest) (fun σ1 => exs body σ1) fg n σD), fun σ' H' q => ⟨n, Nat.lt_succ_self n, q⟩, F0, H0, σD, F1, s1, ?_⟩
      simp only [if_true] at h1
      cases eb : exs body σD with
      | stuck => rw [eb] at h1; exact h1
      | err y => rw [eb] at h1; exact h1
      | ok r =>
        rw [eb] at h1
        cases r with
        | ret d k => exact h1
        | next σ2 => exact fun σ' F' H' s' => ⟨_, F', s'.forget fg, h1⟩
theorem SR.rebase (s : SR K F0 H0 σD σ F H) : SR K F H0 σD σ F H := ⟨s.sl, ⟨Sub.refl F, s.x.h, s.x.s, fun _ _ q => .inl q⟩, s.ow⟩
theorem ext_base {F2 H2 : Hp} (e : Ext F0 H0 F1 H1) (x : Ext F1 H0 F2 H2) : Ext F0 H0 F2 H2 := ⟨e.f.trans x.f, x.h, x.s, fun a o q => (x.n a o q).elim (fun z => e.n a o z) .inr⟩
theorem PostS.rebase {r : R Fl} (e : Ext F0 H0 F1 H1) (h : PostS K mg W F0 H0 Dn r) : PostS K mg W F1 H0 Dn r := by
  cases r with
  | ok f =>
    cases f with
    | next σD => exact fun σ F H s => h σ F H ⟨s.sl, ext_base e s.x, s.ow⟩
    | ret d k => exact fun F H v x r => h F H v (ext_base e x) r
  | err y => exact fun σ F H cls dd x r => h σ F H cls dd (ext_base e x) r
  | stuck => exact h
end
section
variable {K : PySem.W.Frag} {mg : Str → Option Value} {W : WX} {σD : SD} {σ : List (Option V)} {F0 H0 F H F1 H1 : Hp} {Dn : Ends}
theorem drop_get {α : Type} : ∀ {i : Nat} {xs : List α} {x : α}, xs[i]? = some x → xs.drop i = x :: xs.drop (i + 1)
  | 0, [], _, h => by simp at h
  | 0, y :: ys, x, h => by simp at h; subst h; rfl
  | i + 1, [], _, h => by simp at h
  | i + 1, y :: ys, x, h => by simp at h; simpa using drop_get h
theorem for_turn {tg : Tg} {fg : List Nat} {body : Ss} {J : L2.It} {xs : List D} (s : SR K F0 H0 σD σ F1 H1) (w : Walks K J F1 xs)
    (h : PostS K mg W F0 H0 Dn (exFor (fun x σ1 => (bindTg tg σ1 x).bind fun σ2 => exs body σ2) fg xs σD)) :
    ∃ Wn : Nat → Nat → L2.St → Hp → Prop, (∃ m, Wn 0 m σ H1) ∧ ∀ i m σ H, Wn i m σ H →
  (J.stop i H ∧ Dn.nx σ H) ∨ (J.go i H ∧ ∃ N : L2.St → Hp → Prop, (∀ σ' H', N σ' H' → ∃ m', m' < m ∧ Wn (i + 1) m' σ' H') ∧ ∀ x H', J.yld i H x H' → gTg K tg x σ H' fun σ2 H2 => (dSs K mg W body) { Dn with nx := N, ct := N, bk := Dn.nx } σ2 H2) := by
  refine ⟨fun i m σ H => m = xs.length - i ∧ i ≤ xs.length ∧ ∃ σD F, SR K F1 H0 σD σ F H ∧ PostS K mg W F1 H0 Dn (exFor (fun x σ1 => (bindTg tg σ1 x).bind fun σ2 => exs body σ2) fg (xs.drop i) σD),
    ⟨xs.length, by simp, Nat.zero_le _, σD, F1, s.rebase, h.rebase s.x⟩, ?_⟩
  rintro i m σ H ⟨rfl, hi, σD, F, s, h⟩
  obtain ⟨w1, w2⟩ := w i H (s.x.f.trans s.x.h)
  cases ex : xs[i]? with
  | none =>
    have hl : xs.length ≤ i := List.getElem?_eq_none_iff.mp ex
    rw [List.drop_eq_nil_of_le hl] at h
    exact .inl ⟨w1 hl, h σ F H (s.forget fg)⟩
  | some d =>
    have hl : i < xs.length := (List.getElem?_eq_some_iff.mp ex).1
    obtain ⟨g1, g2⟩ := w2 d ex
    rw [drop_get ex] at h
    simp only [exFor, MP.R.bind_assoc] at h
    refine .inr ⟨g1, fun σ' H' => ∃ σD F, SR K F1 H0 σD σ' F H' ∧ PostS K mg W F1 H0 Dn (exFor (fun x σ1 => (bindTg tg σ1 x).bind fun σ2 => exs body σ2) fg (xs.drop (i + 1)) σD),
      fun σ' H' q => ⟨xs.length - (i + 1), by omega, rfl, hl, q⟩, fun x H' y => ?_⟩
    obtain ⟨rfl, rx⟩ := g2 x H' y
    obtain ⟨σD2, eb, h⟩ := postS_ok bindTg_ne h
    refine tgR_ok eb s (Rep.mono s.x.f _ _ rx) fun σ2 s2 => ⟨F1, H0, σD2, F, s2, ?_⟩
    cases eb : exs body σD2 with
    | stuck => rw [eb] at h; exact h
    | err y => rw [eb] at h; exact h
    | ok r =>
      rw [eb] at h
      cases r with
      | ret d k => exact h
      | next σ3 => exact fun σ' F' H' s' => ⟨_, F', s'.forget fg, h⟩
theorem fors_imp {tg : Tg} {it : It} {fg : List Nat} {body : Ss} (hh : denS K mg W F0 H0 (.fors tg it fg body) Dn σ H) : tFor (denIt K mg W it) (gTg K tg) (dSs K mg W body) Dn σ H := by
  obtain ⟨σD, F, s, h⟩ := hh
  simp only [ex] at h
  refine ⟨σD, F, s.sl, postS_bind s h fun xs _ hp F1 H1 J e1 w => ?_⟩
  exact for_turn (s.ext e1) w hp
end
end MP

namespace MP
open PySem PySem.Spec PyProof.Rows L2
theorem sw_no {e : Expr} {t : Option Expr} {l : Nat} {env : Env} (h : isLC e = false) : swapsWith e t l env = pure false := by
  cases e <;> first | rfl | (simp only [isLC] at h; exact absurd h (by decide))
theorem tgNT {C : SC} {i : Nat} {e : Expr} (h : chkTg C (.nm i) e = true) : ∃ x p, e = .Name x p := by
  cases e <;> first | exact ⟨_, _, rfl⟩ | (simp [chkTg] at h; done)
theorem tgTT {C : SC} {is : List Nat} {e : Expr} (h : chkTg C (.tp is) e = true) : ∃ es k p, e = .Tuple es k p := by
  cases e <;> first | exact ⟨_, _, _, rfl⟩ | (simp [chkTg] at h; done)
theorem sw_lc {elt : Expr} {gs : List Comprehension} {scope : Scope} {pos py : Pos} {y : Str} {l : Nat} {env : Env} (hk : env.scope.kind = .function) (h : lcSwap env.scope y py scope pos = false) :
    swapsWith (.ListComp elt gs scope pos) (some (.Name y py)) l env = pure false := by
  have hb : env.blockKind = .function := by unfold Env.blockKind; rw [hk]; rfl
  unfold swapsWith
  unfold lcSwap at h
  have ky : env.kindOf y = env.scope.names.lookup y := rfl
  simp only [hb, ky, Expr.pos]
  cases e : env.scope.names.lookup y with
  | none => rfl
  | some k =>
    rw [e] at h
    cases k <;> first | rfl | skip
    have h' : (py.line == pos.line && !(scope.names.any fun x => x.fst == y && (x.snd == NameKind.local || x.snd == NameKind.cell))) = false := h
    show (pure (py.line == pos.line && !(scope.names.any fun x => x.fst == y && (x.snd == NameKind.local || x.snd == NameKind.cell))) : Sem Bool) = pure false
    rw [h']
theorem ss_none {es vs : List Expr} {k p k2 p2} {env : Env} (h : vs.all (foldedForSure 8) = true) : swappedStores [.Tuple es k p] (.Tuple vs k2 p2) env = pure none := by
  unfold swappedStores
  simp only [h]
  split
  · rfl
  · split
    · rfl
    · split
      · rfl
      · rfl
theorem ss_name {x : Str} {p : Pos} {e : Expr} {env : Env} : swappedStores [.Name x p] e env = pure none := by
  cases e <;> rfl
theorem ss_sub {o i : Expr} {p : Pos} {e : Expr} {env : Env} : swappedStores [.Subscript o i p] e env = pure none := by
  cases e <;> rfl
theorem ss_tup {es : List Expr} {k p} {e : Expr} {env : Env} (h : tupVal (.Tuple es k p) e = true) : swappedStores [.Tuple es k p] e env = pure none := by
  cases e <;> first | rfl | exact ss_none (by simpa [tupVal] using h)
end MP

namespace MP
open PySem PySem.Spec PyProof.Rows L2
section
variable {k : Nat} {K : PySem.W.Frag} {mg : Str → Option Value} {W : WX} {σ : List (Option V)} {H : Hp} {Dn : Ends}
theorem dS_imp {s : S} {t : TS} (h : ∀ F0 H0, denS K mg W F0 H0 s Dn σ H → t Dn σ H) (q : dS K mg W s Dn σ H) : t Dn σ H := by
  obtain ⟨F0, H0, q⟩ := q
  exact h F0 H0 q
theorem pss_frz {i : Nat} {ss : Ss} (q : dSs K mg W (.frz i ss) Dn σ H) : dSs K mg W ss Dn σ H := by
  obtain ⟨F0, H0, σD, F, s, h⟩ := q
  simp only [exs] at h
  obtain ⟨F2, s2⟩ := s.freeze i
  exact ⟨F0, H0, _, F2, s2, h⟩
theorem pss_fgt {is : List Nat} {ss : Ss} (q : dSs K mg W (.fgt is ss) Dn σ H) : dSs K mg W ss Dn σ H := by
  obtain ⟨F0, H0, σD, F, s, h⟩ := q
  simp only [exs] at h
  exact ⟨F0, H0, _, F, s.forget is, h⟩
theorem pss_seq {s : S} {ss : Ss} (q : dSs K mg W (.cons s ss) Dn σ H) : tSeq (dS K mg W s) (dSs K mg W ss) Dn σ H := by
  obtain ⟨F0, H0, σD, F, sr, h⟩ := q
  simp only [exs] at h
  refine ⟨F0, H0, σD, F, sr, ?_⟩
  cases e : ex s σD with
  | stuck => rw [e] at h; exact h
  | err y => rw [e] at h; exact h
  | ok r =>
    rw [e] at h
    cases r with
    | ret d k => exact h
    | next σ2 => exact fun σ' F' H' s' => ⟨F0, H0, σ2, F', s', h⟩
theorem pss_end (q : dSs K mg W .nil Dn σ H) : tNext Dn σ H := by
  obtain ⟨F0, H0, σD, F, sr, h⟩ := q
  simp only [exs] at h
  exact h σ F H sr
end
section
variable {X : Cx} {C : SC} {k : Nat} {W : WX}
theorem XOkS.blockKind (o : XOkS X C k W) : X.env.blockKind = .function := by unfold Env.blockKind; rw [o.kind]; rfl
theorem m1_of (m : Str) {x e : Expr} {apos cpos : Pos} (hx : okX x = true) (he : okX e = true) (hl : (apos.endLine == cpos.line) = true) : M1 X x m apos e cpos := by
  have st : starEach [e] X.env = [(false, eval e X.env)] := by rw [star_of he]; rfl
  refine ⟨base_of hx _ _ _, ?_, hl, ?_⟩
  · rw [st]; rfl
  · rw [st]; rfl
theorem par_rule (o : XOkS X C k W) {i j : Nat} {x y : Str} {px py pos pt pt2 : Pos} {kt k2} {v w : Expr} {ta : TA} (hi : C.N[i]? = some x) (hj : C.N[j]? = some y) (hij : i ≠ j) (h : parB C x y px py v w = true) (hv : okX v = true) (hw : okX w = true) (ha : PA X [v, w] ta) :
    PS X (.Assign [.Tuple [.Name x px, .Name y py] kt pt] (.Tuple [v, w] k2 pt2) pos) (tPar i j ta) := by
  unfold parB at h
  simp only [Bool.and_eq_true, decide_eq_true_eq, Bool.not_eq_true'] at h
  obtain ⟨⟨⟨⟨⟨h1, h2⟩, h3⟩, h4⟩, h5⟩, h6⟩ := h
  have lx : X.env.scope.names.lookup x = some .local := by
    rw [o.o.sc]
    split at h1
    · assumption
    · cases h1
  have ly : X.env.scope.names.lookup y = some .local := by
    rw [o.o.sc]
    split at h2
    · assumption
    · cases h2
  refine ps_par o.o.calm (by rw [o.o.n]; exact o.o.nd) (by rw [o.o.n]; exact hi) (by rw [o.o.n]; exact hj) hij lx ly ha ?_ rfl
  have kx : X.env.kindOf x = some .local := lx
  have ky : X.env.kindOf y = some .local := ly
  have st : ([v, w].any fun | .Starred .. => true | _ => false) = false := by
    cases v <;> cases w <;> first | rfl | (simp [okX] at hv; done) | (simp [okX] at hw; done)
  have hl : (py.line == px.line) = true := by rw [beq_iff_eq] at h3 ⊢; exact h3.symm
  have he : ([x, y] : List Str).eraseDups.length = 2 := by
    have : (y == x) = false := by rw [beq_eq_false_iff_ne]; exact fun z => h4 z.symm
    rw [List.eraseDups_cons]
    simp [this, List.eraseDups_cons]
  unfold swappedStores
  simp only [kx, ky, o.blockKind, h5, h6, hl, he, Expr.pos, st]
  have hl' : py.line = px.line := beq_iff_eq.mp hl
  simp [hl', kx, ky, List.filterMap_cons]
  rw [if_neg (by
    rintro (z | z)
    · revert z
      cases v <;> first | (simp; done) | (simp [okX] at hv; done)
    · revert z
      cases w <;> first | (simp; done) | (simp [okX] at hw; done))]
  rw [if_pos he]
end
theorem sole {t v : Expr} {l : Nat} {env : Env} (h : swapsWith v (some t) l env = pure false) : swapsWithSole [t] v l env = pure false := h
section
variable {n : Nat}
theorem asg_ok {tg : Tg} {e : E} {X : Cx} {C : SC} {W : WX} {x : Stmt} (o : XOkS X C n W) (g : GoodS (CallOk X.prog X.w X.K X.mg X.base n) (ExcOk X.K X.mg) (.asg tg e)) (h : chkS C (.asg tg e) x = true) : PS X x (dS X.K X.mg W (.asg tg e)) := by
  simp only [chkS] at h
  unfold chkAsg at h
  split at h
  case h_2 => cases h
  rename_i t v pos
  simp only [Bool.and_eq_true, decide_eq_true_eq, Bool.not_eq_true'] at h
  simp only [GoodS] at g
  obtain ⟨⟨⟨h1, h2⟩, h3⟩, h4⟩ := h
  have he := pe_ok e v o.o g h3
  have hg := pg_ok o.o h2
  cases tg with
  | tp is =>
    obtain ⟨es, kk, p, rfl⟩ := tgTT h2
    exact (ps_asg he hg (by
      cases v <;> rfl) (ss_tup h4) rfl).imp fun Dn σ H => dS_imp fun F0 H0 => asg_imp
  | nm i =>
    obtain ⟨y, p, rfl⟩ := tgNT h2
    by_cases hlc : isLC v = false
    · exact (ps_asg he hg (sole <| sw_no hlc) ss_name rfl).imp fun Dn σ H => dS_imp fun F0 H0 => asg_imp
    · cases v with
      | ListComp x1 gens scope pl =>
        cases hsw : lcSwap X.env.scope y p scope pl with
        | false => exact (ps_asg he hg (sole <| sw_lc o.kind hsw) ss_name rfl).imp fun Dn σ H => dS_imp fun F0 H0 => asg_imp
        | true =>
          cases e <;> first | (simp [chk] at h3; done) | skip
          rename_i elt tg own it c
          rcases gens with _ | ⟨⟨u, i1, ifs, isa⟩, _ | ⟨_, _⟩⟩ <;> first | (simp [chk] at h3; done) | skip
          simp only [chk, Bool.not_false, Bool.true_and, Bool.and_eq_true, decide_eq_true_eq] at h3
          simp only [Good] at g
          obtain ⟨⟨⟨⟨⟨⟨⟨rfl, q2⟩, q3⟩, q4⟩, q5⟩, q6⟩, q7⟩, q8⟩ := h3
          have hly : X.env.scope.names.lookup y = some .local := by
            unfold lcSwap at hsw
            simp only [Bool.and_eq_true] at hsw
            have := hsw.1.1
            split at this
            · assumption
            · cases this
          have hline : (p.line == pl.line) = true := by
            unfold lcSwap at hsw
            simp only [Bool.and_eq_true] at hsw
            exact hsw.1.2
          have hany : (scope.names.any fun (n, k) => n == y && (k == .local || k == .cell)) = false := by
            unfold lcSwap at hsw
            simp only [Bool.and_eq_true, Bool.not_eq_true'] at hsw
            exact hsw.2
          simp only [chkTg, Bool.and_eq_true, decide_eq_true_eq] at h2
          have o' := o.o
          refine (ps_setLc o'.calm (by rw [o'.n]; exact o'.nd) (by rw [o'.n]; exact h2.1) hly (sw_true o.kind hly hline hany) (pi_ok it (tg := u) i1 o' g.2.1 q3) (blkOk_by (by rw [o'.n, o'.sc]; exact q2)) (fun s H Ca cl fp => pg_ok (o'.blk s H scope Ca cl fp) q5)
            (fun s H Ca cl fp => pts_ok c (X := X.blk s H scope (compEnvC scope cl Ca X.env) fp) ifs (o'.blk s H scope Ca cl fp) g.2.2 q7) (fun s H Ca cl fp => pe_ok elt (X := X.blk s H scope (compEnvC scope cl Ca X.env) fp) x1 (o'.blk s H scope Ca cl fp) g.1 q8) (fun y => fold_of q4 _ y)).imp
            fun Dn σ H => dS_imp fun F0 H0 hh => lc_read q6 (asg_imp hh)
      | _ => first | (simp [isLC] at hlc; done) | (cases e <;> simp [chk] at h3)
theorem par_ok {i j : Nat} {a b : E} {X : Cx} {C : SC} {W : WX} {x : Stmt} (o : XOkS X C n W) (g : GoodS (CallOk X.prog X.w X.K X.mg X.base n) (ExcOk X.K X.mg) (.par i j a b)) (h : chkS C (.par i j a b) x = true) : PS X x (dS X.K X.mg W (.par i j a b)) := by
  simp only [chkS] at h
  unfold chkPar at h
  split at h
  case h_2 => cases h
  rename_i y1 py1 y2 py2 _ _ v1 v2 _ _ _
  simp only [Bool.and_eq_true, decide_eq_true_eq, Bool.not_eq_true'] at h
  simp only [GoodS] at g
  obtain ⟨⟨⟨⟨⟨⟨⟨h1, h2⟩, h3⟩, h4⟩, h5⟩, h6⟩, h7⟩, h8⟩ := h
  exact (par_rule o h1 h2 h3 h4 h5 h6 (pa_cons (pe_ok a v1 o.o g.1 h7) (pa_cons (pe_ok b v2 o.o g.2 h8) pa_nil (star_of h6 [] X.env)) (star_of h5 [v2] X.env))).imp fun Dn σ H => dS_imp fun F0 H0 => par_imp
theorem put_ok {i : Nat} {k e : E} {X : Cx} {C : SC} {W : WX} {x : Stmt} (o : XOkS X C n W) (g : GoodS (CallOk X.prog X.w X.K X.mg X.base n) (ExcOk X.K X.mg) (.put i k e)) (h : chkS C (.put i k e) x = true) : PS X x (dS X.K X.mg W (.put i k e)) := by
  simp only [chkS] at h
  unfold chkPut at h
  split at h
  case h_2 => cases h
  rename_i y py kx _ v _
  simp only [Bool.and_eq_true, decide_eq_true_eq, Bool.not_eq_true'] at h
  simp only [GoodS] at g
  obtain ⟨⟨⟨⟨⟨⟨⟨h1, h2⟩, h3⟩, q1⟩, q2⟩, q3⟩, h5⟩, h6⟩ := h
  obtain ⟨n1, n2, _⟩ := okN_of q3
  have hv : PE X (.Name y py) (tVar i) := pe_var (by rw [o.o.n]; exact q1) (o.o.vis q2) n1 n2
  have hk := pe_ok k kx o.o g.1 h5
  have he := pe_ok e v o.o g.2 h6
  exact ((ps_dput (by have := o.o.hu; omega) hv hk he (sw_no h2)).or (ps_asg he (pg_sub hv hk set_list (by intro v; cases kx <;> first | rfl | (simp [okX] at h3; done))) (sole <| sw_no h2) ss_sub rfl)).imp fun Dn σ H ⟨F0, H0, hh⟩ => put_imp hh
theorem app_ok {i : Nat} {e : E} {X : Cx} {C : SC} {W : WX} {x : Stmt} (o : XOkS X C n W) (g : GoodS (CallOk X.prog X.w X.K X.mg X.base n) (ExcOk X.K X.mg) (.app i e)) (h : chkS C (.app i e) x = true) : PS X x (dS X.K X.mg W (.app i e)) := by
  simp only [chkS] at h
  unfold chkM at h
  split at h
  case h_2 => cases h
  rename_i y py gg apos v cpos _
  simp only [Bool.and_eq_true, decide_eq_true_eq, Bool.not_eq_true'] at h
  simp only [GoodS] at g
  obtain ⟨⟨⟨⟨⟨⟨rfl, h2⟩, h4⟩, q1⟩, q2⟩, q3⟩, h6⟩ := h
  obtain ⟨n1, n2, _⟩ := okN_of q3
  have hv : PE X (.Name y py) (tVar i) := pe_var (by rw [o.o.n]; exact q1) (o.o.vis q2) n1 n2
  have m := m1_of (X := X) "append" (x := .Name y py) rfl h4 h2
  exact (ps_expr (pe_bm PySem.F.plainAttrs_list PySem.F.slot_list_append PySem.F.type_list_append mt_append hv (pa_cons (pe_ok e v o.o g h6) pa_nil (star_of h4 [] X.env)) m.base m.few h2 (star_of h4 [] X.env) rfl) rfl).imp fun Dn σ H => dS_imp fun F0 H0 => app_imp
theorem ext_ok {i : Nat} {e : E} {X : Cx} {C : SC} {W : WX} {x : Stmt} (o : XOkS X C n W) (g : GoodS (CallOk X.prog X.w X.K X.mg X.base n) (ExcOk X.K X.mg) (.ext i e)) (h : chkS C (.ext i e) x = true) : PS X x (dS X.K X.mg W (.ext i e)) := by
  simp only [chkS] at h
  unfold chkM at h
  split at h
  case h_2 => cases h
  rename_i y py gg apos v cpos _
  simp only [Bool.and_eq_true, decide_eq_true_eq, Bool.not_eq_true'] at h
  simp only [GoodS] at g
  obtain ⟨⟨⟨⟨⟨⟨rfl, h2⟩, h4⟩, q1⟩, q2⟩, q3⟩, h6⟩ := h
  obtain ⟨n1, n2, _⟩ := okN_of q3
  have hv : PE X (.Name y py) (tVar i) := pe_var (by rw [o.o.n]; exact q1) (o.o.vis q2) n1 n2
  have m := m1_of (X := X) "extend" (x := .Name y py) rfl h4 h2
  exact (ps_expr (pe_bm PySem.F.plainAttrs_list PySem.F.slot_list_extend PySem.F.type_list_extend mt_extend hv (pa_cons (pe_ok e v o.o g h6) pa_nil (star_of h4 [] X.env)) m.base m.few h2 (star_of h4 [] X.env) rfl) rfl).imp fun Dn σ H => dS_imp fun F0 H0 => ext_imp
theorem pop_ok {i : Nat} {k : E} {X : Cx} {C : SC} {W : WX} {x : Stmt} (o : XOkS X C n W) (g : GoodS (CallOk X.prog X.w X.K X.mg X.base n) (ExcOk X.K X.mg) (.pop i k)) (h : chkS C (.pop i k) x = true) : PS X x (dS X.K X.mg W (.pop i k)) := by
  simp only [chkS] at h
  unfold chkM at h
  split at h
  case h_2 => cases h
  rename_i y py gg apos v cpos _
  simp only [Bool.and_eq_true, decide_eq_true_eq, Bool.not_eq_true'] at h
  simp only [GoodS] at g
  obtain ⟨⟨⟨⟨⟨⟨rfl, h2⟩, h4⟩, q1⟩, q2⟩, q3⟩, h6⟩ := h
  obtain ⟨n1, n2, _⟩ := okN_of q3
  have hv : PE X (.Name y py) (tVar i) := pe_var (by rw [o.o.n]; exact q1) (o.o.vis q2) n1 n2
  exact (ps_expr (pe_dpop1 hv (pe_ok k v o.o g h6) (m1_of "pop" rfl h4 h2)) rfl).imp fun Dn σ H => dS_imp fun F0 H0 => pop_imp
theorem ins_ok {i : Nat} {k e : E} {X : Cx} {C : SC} {W : WX} {x : Stmt} (o : XOkS X C n W) (g : GoodS (CallOk X.prog X.w X.K X.mg X.base n) (ExcOk X.K X.mg) (.ins i k e)) (h : chkS C (.ins i k e) x = true) : PS X x (dS X.K X.mg W (.ins i k e)) := by
  simp only [chkS] at h
  unfold chkIns at h
  split at h
  case h_2 => cases h
  rename_i y py gg apos kx v cpos _
  simp only [Bool.and_eq_true, decide_eq_true_eq, Bool.not_eq_true'] at h
  simp only [GoodS] at g
  obtain ⟨⟨⟨⟨⟨⟨⟨⟨rfl, h2⟩, h4⟩, h5⟩, q1⟩, q2⟩, q3⟩, h7⟩, h8⟩ := h
  obtain ⟨n1, n2, _⟩ := okN_of q3
  have hv : PE X (.Name y py) (tVar i) := pe_var (by rw [o.o.n]; exact q1) (o.o.vis q2) n1 n2
  have st := star_of h4 [v] X.env
  have st2 : starEach [kx, v] X.env = [(false, eval kx X.env), (false, eval v X.env)] := by rw [star_of h4, star_of h5]; rfl
  exact (ps_expr (pe_bm PySem.F.plainAttrs_list PySem.F.slot_list_insert PySem.F.type_list_insert mt_insert hv (pa_cons (pe_ok k kx o.o g.1 h7) (pa_cons (pe_ok e v o.o g.2 h8) pa_nil (star_of h5 [] X.env)) st) (base_of rfl _ _ _) (by rw [st2]; rfl) h2 st (plain_star (es := [v]) (by simpa using h5))) rfl).imp fun Dn σ H => dS_imp fun F0 H0 => ins_imp
theorem ret_ok {e : E} {X : Cx} {C : SC} {W : WX} {x : Stmt} (o : XOkS X C n W) (g : GoodS (CallOk X.prog X.w X.K X.mg X.base n) (ExcOk X.K X.mg) (.ret e)) (h : chkS C (.ret e) x = true) : PS X x (dS X.K X.mg W (.ret e)) := by
  simp only [chkS] at h
  unfold chkRet at h
  split at h
  case h_2 => cases h
  rename_i v _
  simp only [GoodS] at g
  exact (ps_ret (pe_ok e _ o.o g h)).imp fun Dn σ H => dS_imp fun F0 H0 => ret_imp
theorem rse_ok {c : Str} {X : Cx} {C : SC} {W : WX} {x : Stmt} (o : XOkS X C n W) (g : GoodS (CallOk X.prog X.w X.K X.mg X.base n) (ExcOk X.K X.mg) (.rse c)) (h : chkS C (.rse c) x = true) : PS X x (dS X.K X.mg W (.rse c)) := by
  simp only [chkS] at h
  unfold chkRse at h
  split at h
  case h_2 => cases h
  rename_i y py tx _ _ _ _
  simp only [Bool.and_eq_true, decide_eq_true_eq, Bool.not_eq_true'] at h
  simp only [GoodS] at g
  obtain ⟨⟨rfl, h2⟩, h3⟩ := h
  obtain ⟨Ca, g1, g2, g3, g4, g5⟩ := g.ok
  exact (L2N.ps_raise o.o.calm o.o.tk (L2N.pmk_own PySem.F.excBase_ValueError g2 g1 g3 (raises_own g4 g5) (o.o.glo h2) (okN_of h3).1)).imp fun Dn σ H ⟨F0, H0, hh⟩ => rse_imp g1 hh
mutual
theorem ps_ok : ∀ (s : S) {X : Cx} {C : SC} {W : WX} (x : Stmt), XOkS X C n W → GoodS (CallOk X.prog X.w X.K X.mg X.base n) (ExcOk X.K X.mg) s → chkS C s x = true → PS X x (dS X.K X.mg W s)
  | .asg tg e, X, C, W, x, o, g, h => asg_ok o g h
  | .par i j a b, X, C, W, x, o, g, h => par_ok o g h
  | .put i k e, X, C, W, x, o, g, h => put_ok o g h
  | .app i e, X, C, W, x, o, g, h => app_ok o g h
  | .ext i e, X, C, W, x, o, g, h => ext_ok o g h
  | .ins i k e, X, C, W, x, o, g, h => ins_ok o g h
  | .pop i k, X, C, W, x, o, g, h => pop_ok o g h
  | .ifs c a b, X, C, W, x, o, g, h => by
    cases x with
    | If t as bs pos =>
      simp only [chkS, Bool.and_eq_true] at h
      simp only [GoodS] at g
      exact (ps_if (pt_ok c t o.o g.1 h.1.1) (pss_ok a as o g.2.1 h.1.2) (pss_ok b bs o g.2.2 h.2)).imp fun Dn σ H ⟨F0, H0, hh⟩ => ifs_imp hh
    | _ => simp [chkS] at h
  | .fors tg it fg body, X, C, W, x, o, g, h => by
    cases x with
    | For t i bs es pos =>
      cases es <;> first | (simp [chkS] at h; done) | skip
      simp only [chkS, Bool.and_eq_true] at h
      simp only [GoodS] at g
      obtain ⟨⟨⟨h1, h2⟩, h3⟩, h4⟩ := h
      exact (ps_for o.pass o.o.calm (pi_ok it (tg := t) i o.o g.1 h2) (pg_ok o.o h1) (pss_ok body bs o g.2 h4) (fun y => fold_of h3 _ y)).imp fun Dn σ H ⟨F0, H0, hh⟩ => fors_imp hh
    | _ => simp [chkS] at h
  | .whl fuel c fg body, X, C, W, x, o, g, h => by
    cases x with
    | While t bs es pos =>
      cases es <;> first | (simp [chkS] at h; done) | skip
      simp only [chkS, Bool.and_eq_true] at h
      simp only [GoodS] at g
      exact (ps_while o.pass (pt_ok c t o.o g.1 h.1) (pss_ok body bs o g.2 h.2)).imp fun Dn σ H ⟨F0, H0, hh⟩ => whl_imp hh
    | _ => simp [chkS] at h
  | .ret e, X, C, W, x, o, g, h => ret_ok o g h
  | .rse c, X, C, W, x, o, g, h => rse_ok o g h
theorem pss_ok : ∀ (s : Ss) {X : Cx} {C : SC} {W : WX} (x : List Stmt), XOkS X C n W → GoodSs (CallOk X.prog X.w X.K X.mg X.base n) (ExcOk X.K X.mg) s → chkSs C s x = true → PSs X x (dSs X.K X.mg W s)
  | .nil, X, C, W, x, o, g, h => by
    cases x with
    | nil => exact pss_nil.imp fun Dn σ H => pss_end
    | cons _ _ => simp [chkSs] at h
  | .cons s ss, X, C, W, x, o, g, h => by
    cases x with
    | nil => simp [chkSs] at h
    | cons y ys =>
      simp only [chkSs, Bool.and_eq_true] at h
      simp only [GoodSs] at g
      exact (pss_cons (ps_ok s y o g.1 h.1) (pss_ok ss ys o g.2 h.2)).imp fun Dn σ H => pss_seq
  | .frz i ss, X, C, W, x, o, g, h => by
    simp only [GoodSs] at g
    exact (pss_ok ss x o g (by cases x <;> simpa [chkSs] using h)).imp fun Dn σ H => pss_frz
  | .fgt is ss, X, C, W, x, o, g, h => by
    simp only [GoodSs] at g
    exact (pss_ok ss x o g (by cases x <;> simpa [chkSs] using h)).imp fun Dn σ H => pss_fgt
end
end
end MP

namespace MP
open PySem PySem.Spec PyProof.Rows L2
/-- m says no more than r -/
def Le (m r : R DK) : Prop := m ≠ .stuck → r = m
theorem Le.refl (r : R DK) : Le r r := fun _ => rfl
section
variable {K : PySem.W.Frag} {F H : Hp}
def entry (n : Nat) (ds : List D) : SD := ds.map (fun d => some (d, false)) ++ List.replicate (n - ds.length) none
theorem entry_SL : ∀ {n : Nat} {ds : List D} {vs : List V}, Sub F H → Reps K F ds vs → SL K (entry n ds) (vs.map some ++ List.replicate (n - vs.length) none) F H := by
  intro n ds vs sub r
  have hl := r.length
  have no : ∀ (j : Nat) (d : D), (entry n ds)[j]? ≠ some (some (d, true)) := by
    intro j d h
    unfold entry at h
    rw [List.getElem?_append] at h
    split at h
    · rw [List.getElem?_map] at h
      cases e : ds[j]? with
      | none => rw [e] at h; cases h
      | some x => rw [e] at h; cases h
    · rw [List.getElem?_replicate] at h
      split at h <;> cases h
  refine ⟨sub, fun j d h => ?_, fun j d h => absurd h (no j d), fun j l d e v h _ _ _ => absurd h (no j d), ?_⟩
  · unfold entry at h
    rw [List.getElem?_append] at h
    split at h
    · rw [List.getElem?_map] at h
      cases e : ds[j]? with
      | none => rw [e] at h; cases h
      | some x =>
        rw [e] at h
        cases h
        obtain ⟨v, e1, e2⟩ := r.get e
        refine ⟨v, ?_, e2⟩
        rw [List.getElem?_append_left (by rw [List.length_map]; exact (List.getElem?_eq_some_iff.mp e1).1), List.getElem?_map, e1]
        rfl
    · rw [List.getElem?_replicate] at h
      split at h <;> cases h
  · unfold entry
    simp [hl]
end
section
variable {P : Program} {w : World} {K : PySem.W.Frag} {mg : Str → Option Value} {base : Heap} {x qual : Str} {params : Arguments} {bd : List Stmt} {scope : Scope} {f : Addr} {fd : FuncData}
theorem fn_ok {N ps : List Str} {k : Nat} {ir : Ss} {m : M} (F : FunD K x qual params bd scope [] [] f fd) (S : FnScope N ps scope) (hc : chkSs ⟨N, scope, true⟩ ir bd = true)
    (hg : GoodSs (CallOk P w K mg base k) (ExcOk K mg) ir) (hf : ∀ x ∈ freeNames, mg x = none) (hm : ∀ ds, ds.length = ps.length → Le (m ds) (runD N.length ir ds)) :
    FnOk P w K mg base (L2N.CX P w) (k + 1) f fd ps (spM K mg ps.length m) := by
  refine F.ok S (fun vs H Q E h => ?_) fun cdv A outer s H vs Q E hr h => ?_
  · obtain ⟨F, ds, _, r, hl, _⟩ := h
    rw [r.length, hl]
  · obtain ⟨F, ds, sub, r, hl, h⟩ := h
    have hle := hm ds hl
    have hne : m ds ≠ .stuck := fun e => by rw [e] at h; exact h
    rw [← hle hne] at h
    refine ⟨_, pss_ok (n := k) (C := ⟨N, scope, true⟩) (W := fun cls d _ H => E cls d H) ir bd ⟨⟨rfl, rfl, S.nd, rfl, hr, L2N.takes_of rfl rfl rfl rfl, fun _ _ => rfl, hf⟩, rfl, S.kind, passes_of rfl⟩ hg hc, F, H, entry N.length ds, F,
      ⟨entry_SL sub r, Ext.refl sub, fun a o => ?_⟩, ?_⟩
    · obtain ⟨j, d, h1, _⟩ := o
      exfalso
      unfold entry at h1
      rw [List.getElem?_append] at h1
      split at h1
      · rw [List.getElem?_map] at h1
        cases e : ds[j]? with
        | none => rw [e] at h1; cases h1
        | some x => rw [e] at h1; cases h1
      · rw [List.getElem?_replicate] at h1
        split at h1 <;> cases h1
    · show PostS K mg (fun cls d _ H => E cls d H) F H { nx := fun _ H' => Q .non H', rt := Q } (exs ir (entry N.length ds))
      have e0 : runD N.length ir ds = (exs ir (entry N.length ds)).bind fun r => match r with
        | .next _ => .ok (.non, .fz)
        | .ret d k => .ok (d, k) := rfl
      rw [e0] at h
      cases er : exs ir (entry N.length ds) with
      | stuck => rw [er] at h; exact h
      | err y => 
        rw [er] at h
        exact fun σ F' H' cls dd x z => h F' H' cls dd x z
      | ok q =>
        rw [er] at h
        cases q with
        | next σ2 => exact fun σ F' H' s => h F' H' .non s.x (by simp only [VR, Rep])
        | ret d k => exact fun F' H' v x z => h F' H' v x z
theorem fn_stuck {CX : CXT} {ps : List Str} {k : Nat} {n : Nat} : FnOk P w K mg base CX k f fd ps (spM K mg n fun _ => .stuck) :=
  ⟨fun vs H Q E h => h.elim fun _ h => h.elim fun _ h => h.2.2.2.elim, fun A outer s H args us vs Q E _ _ _ _ h => h.elim fun _ h => h.elim fun _ h => h.2.2.2.elim⟩
theorem call_ok {ps : List Str} {k : Nat} {m : M} {g : Str} {n : Nat} (hg : mg g = some (.ref f)) (F : FunD K x qual params bd scope [] [] f fd) (o : FnOk P w K mg base (L2N.CX P w) k f fd ps (spM K mg n m)) (hb : Binds K fd ps []) : CallOk P w K mg base k g n m :=
  ⟨f, fd, ps, hg, F.kp, o, hb⟩
theorem CallOk.mono {j k : Nat} {g : Str} {n : Nat} {m : M} (c : CallOk P w K mg base j g n m) (h : j ≤ k) : CallOk P w K mg base k g n m := by
  obtain ⟨fa, fd, ps, h1, h2, h3, h4⟩ := c.ok
  exact ⟨fa, fd, ps, h1, h2, h3.mono h, h4⟩
end
end MP

namespace MP
open PySem PySem.Spec PyProof.Rows L2
/-- a law's end: what the law's own mirror gives of every script -/
theorem walk_mp {l : PySem.W.OpenLaw} {n k : Nat} {q : Program} {loose : List Str} {XP : (Str → Option Value) → Heap → Prop} {YP : World → Heap → Prop} {d : DefRec} {x : Str} {m : M}
    (hn : l.most = some n) (hn2 : n ≤ sizeLine) (hdf : d.params.defaults = []) (room : Room k callerA)
    (plain : ∀ ns : List Int, ns.length ≤ n → m [.scr ns] = .ok (.bl true, .fz))
    (walk : ∀ (w : World) (mg : Str → Option Value) (fa : Addr) (h : Heap), YP w h → h.Ns mainGlobals mg → mg d.name = some (.ref fa) →
      ∃ (K : PySem.W.Frag) (fd : FuncData), K.In h ∧ (∀ (s : Shared) (u : Value), BindsTo s fd ⟨[u], []⟩ [(x, u)]) ∧
        ∀ base : Heap, K.In base → base.Ns mainGlobals mg → FnOk l.prog w K mg base (L2N.CX l.prog w) k fa fd [x] (spM K mg 1 m)) :
    PySem.W.WalkO q loose XP YP l.row.toRowW d [] (fun f vs => PySem.call f vs) := by
  apply Att.attach_call hn hdf
  intro w s₀ s₁ mg mb fa o pm cd doc a vs ns G Y ho hd hcd hmg hobj hints hlen hg
  obtain ⟨K, fd, inK, binds, fnok⟩ := walk w mg fa _ Y G.T.g hmg
  have small : ns.length ≤ sizeLine := Nat.le_trans hlen hn2
  apply law_call inK G.T.g G.T.b G.T.builtins G.T.nolimit hg hobj hints small room fnok binds
  · intro H _ sq
    refine ⟨H, [.scr ns], Sub.refl H, Reps.cons ⟨a, rfl, sq⟩ Reps.nil, rfl, ?_⟩
    rw [plain ns hlen]
    intro F' H' v _ vr
    simp only [VR, Rep] at vr
    exact vr
  · rintro H e s' ⟨_, _, _, _, _, _, _, _, _, _, _, _, no⟩
    exact no
/-- turns of a while that makes slot i smaller -/
def fuelI (i : Nat) (σ : SD) : Nat := match σ[i]? with
  | some (some (.int j, _)) => j.natAbs + 1
  | _ => 0
end MP

namespace MPk07
open PySem PySem.Spec PyProof.Rows L2 MP
def N_made : List Str := ["powers", "letter"]
noncomputable def ir_made : Ss :=
(.cons (.ret (.bi .tuple (.cons (.lc (.tup (.cons (.var 1) (.cons (.ix (.var 0) (.var 1)) .nil))) (.nm 1) [("letter", 1)] (.seq (.bi .sorted (.cons (.var 0) .nil))) (.yes (.cmp .ne (.ix (.var 0) (.var 1)) (.int 0)))) .nil)))
.nil)
noncomputable def m_made : M := runD 2 ir_made
def N_times : List Str := ["one", "other", "powers", "letter", "many"]
noncomputable def ir_times : Ss :=
(.cons (.asg (.nm 2) (.bi .dict (.cons (.var 0) .nil)))
(.cons (.fors (.tp [3, 4]) (.seq (.var 1)) [3, 4]
(.cons (.put 2 (.var 3) (.bin .add (.getd (.var 2) (.var 3) (.int 0)) (.var 4)))
.nil))
(.frz 2
(.cons (.ret (.call "made" m_made (.cons (.var 2) .nil)))
.nil))))
noncomputable def m_times : M := runD 5 ir_times
def N_power : List Str := ["one", "n", "letter", "many"]
noncomputable def ir_power : Ss :=
(.cons (.ret (.bi .tuple (.cons (.lc (.tup (.cons (.var 2) (.cons (.bin .mul (.var 3) (.var 1)) .nil))) (.tp [2, 3]) [("letter", 2), ("many", 3)] (.seq (.var 0)) (.yes (.cmp .ne (.var 1) (.int 0)))) .nil)))
.nil)
noncomputable def m_power : M := runD 4 ir_power
def N_over : List Str := ["one", "other"]
noncomputable def ir_over : Ss :=
(.cons (.ret (.call "times" m_times (.cons (.var 0) (.cons (.call "power" m_power (.cons (.var 1) (.cons (.neg (.int 1)) .nil))) .nil))))
.nil)
noncomputable def m_over : M := runD 2 ir_over
def N_parts_of : List Str := ["reckoning"]
noncomputable def ir_parts_of : Ss :=
(.cons (.ifs (.cmp .inn (.ix (.var 0) (.int 0)) (.tup (.cons (.str "is") (.cons (.str "input") .nil))))
(.cons (.ret (.lst .nil))
.nil)
.nil)
(.cons (.ifs (.cmp .eq (.ix (.var 0) (.int 0)) (.str "power"))
(.cons (.ret (.lst (.cons (.ix (.var 0) (.int 1)) .nil)))
.nil)
.nil)
(.cons (.ret (.bi .list (.cons (.slf (.var 0) (.int 1)) .nil)))
.nil)))
noncomputable def m_parts_of : M := runD 1 ir_parts_of
def N_all_inputs : List Str := ["reckoning", "found", "part"]
noncomputable def ir_all_inputs (self_ : M) : Ss :=
(.cons (.ifs (.cmp .eq (.ix (.var 0) (.int 0)) (.str "input"))
(.cons (.ret (.lst (.cons (.ix (.var 0) (.int 1)) .nil)))
.nil)
.nil)
(.cons (.asg (.nm 1) (.lst .nil))
(.cons (.fors (.nm 2) (.seq (.call "parts_of" m_parts_of (.cons (.var 0) .nil))) [2]
(.cons (.ext 1 (.call "all_inputs" self_ (.cons (.var 2) .nil)))
.nil))
(.cons (.ret (.var 1))
.nil))))
noncomputable def m_all_inputs : Nat → M
  | 0 => fun _ => .stuck
  | k + 1 => runD 3 (ir_all_inputs (m_all_inputs k))
def N_inputs : List Str := ["reckoning"]
noncomputable def ir_inputs : Ss :=
(.cons (.ret (.sset (.call "all_inputs" (m_all_inputs 20) (.cons (.var 0) .nil))))
.nil)
noncomputable def m_inputs : M := runD 1 ir_inputs
def N_noughts : List Str := ["reckoning", "part"]
noncomputable def ir_noughts (self_ : M) : Ss :=
(.cons (.ifs (.cmp .eq (.ix (.var 0) (.int 0)) (.str "nought"))
(.cons (.ret (.int 1))
.nil)
.nil)
(.cons (.ret (.bi .sum (.cons (.lc (.call "noughts" self_ (.cons (.var 1) .nil)) (.nm 1) [("part", 1)] (.seq (.call "parts_of" m_parts_of (.cons (.var 0) .nil))) .no) .nil)))
.nil))
noncomputable def m_noughts : Nat → M
  | 0 => fun _ => .stuck
  | k + 1 => runD 2 (ir_noughts (m_noughts k))
def N_walked : List Str := ["reckoning", "names", "given", "first", "kind", "found", "rows", "part", "measure", "more"]
noncomputable def ir_walked (self_ : M) : Ss :=
(.cons (.asg (.nm 4) (.ix (.var 0) (.int 0)))
(.frz 4
(.cons (.ifs (.cmp .eq (.var 4) (.str "is"))
(.cons (.ret (.tup (.cons (.ix (.var 0) (.int 2)) (.cons (.lst .nil) .nil))))
.nil)
.nil)
(.cons (.ifs (.cmp .eq (.var 4) (.str "nought"))
(.cons (.ret (.tup (.cons (.ix (.var 2) (.var 3)) (.cons (.lst .nil) .nil))))
.nil)
.nil)
(.cons (.ifs (.cmp .eq (.var 4) (.str "input"))
(.cons (.ret (.tup (.cons (.ix (.var 1) (.ix (.var 0) (.int 1))) (.cons (.lst .nil) .nil))))
.nil)
.nil)
(.cons (.asg (.nm 5) (.lst .nil))
(.cons (.asg (.nm 6) (.lst .nil))
(.cons (.fors (.nm 7) (.seq (.call "parts_of" m_parts_of (.cons (.var 0) .nil))) [7, 8, 9]
(.cons (.asg (.tp [8, 9]) (.call "walked" self_ (.cons (.var 7) (.cons (.var 1) (.cons (.var 2) (.cons (.var 3) .nil))))))
(.cons (.app 5 (.var 8))
(.cons (.ext 6 (.var 9))
(.cons (.asg (.nm 3) (.bin .add (.var 3) (.call "noughts" (m_noughts 20) (.cons (.var 7) .nil))))
.nil)))))
(.frz 5
(.cons (.ifs (.cmp .eq (.var 4) (.str "power"))
(.frz 6
(.cons (.ret (.tup (.cons (.call "power" m_power (.cons (.ix (.var 5) (.int 0)) (.cons (.ix (.var 0) (.int 2)) .nil))) (.cons (.var 6) .nil))))
.nil))
.nil)
(.cons (.ifs (.cmp .eq (.var 4) (.str "times"))
(.frz 6
(.cons (.ret (.tup (.cons (.call "times" m_times (.cons (.ix (.var 5) (.int 0)) (.cons (.ix (.var 5) (.int 1)) .nil))) (.cons (.var 6) .nil))))
.nil))
.nil)
(.cons (.ifs (.cmp .eq (.var 4) (.str "over"))
(.frz 6
(.cons (.ret (.tup (.cons (.call "over" m_over (.cons (.ix (.var 5) (.int 0)) (.cons (.ix (.var 5) (.int 1)) .nil))) (.cons (.var 6) .nil))))
.nil))
.nil)
(.cons (.app 6 (.call "over" m_over (.cons (.ix (.var 5) (.int 0)) (.cons (.ix (.var 5) (.int 1)) .nil))))
(.cons (.ifs (.cmp .eq (.var 4) (.str "less"))
(.cons (.app 6 (.call "over" m_over (.cons (.ix (.var 5) (.int 2)) (.cons (.ix (.var 5) (.int 3)) .nil))))
(.frz 6
(.cons (.ret (.tup (.cons (.ix (.var 5) (.int 2)) (.cons (.var 6) .nil))))
.nil)))
.nil)
(.frz 6
(.frz 6
(.cons (.ret (.tup (.cons (.ix (.var 5) (.int 0)) (.cons (.var 6) .nil))))
.nil)))))))))))))))))
noncomputable def m_walked : Nat → M
  | 0 => fun _ => .stuck
  | k + 1 => runD 10 (ir_walked (m_walked k))
def N_lettered : List Str := ["reckoning", "names", "name", "given", "k"]
noncomputable def ir_lettered : Ss :=
(.cons (.asg (.nm 1) .dic0)
(.cons (.fors (.nm 2) (.seq (.call "inputs" m_inputs (.cons (.var 0) .nil))) [2]
(.cons (.put 1 (.var 2) (.tup (.cons (.tup (.cons (.bin .add (.str "=") (.var 2)) (.cons (.int 1) .nil))) .nil)))
.nil))
(.frz 1
(.cons (.asg (.nm 3) (.lc (.tup (.cons (.tup (.cons (.bin .add (.str "0") (.bi .str (.cons (.var 4) .nil))) (.cons (.int 1) .nil))) .nil)) (.nm 4) [("k", 4)] (.rng1 (.call "noughts" (m_noughts 20) (.cons (.var 0) .nil))) .no))
(.frz 3
(.cons (.ret (.call "walked" (m_walked 20) (.cons (.var 0) (.cons (.var 1) (.cons (.var 3) (.cons (.int 0) .nil))))))
.nil))))))
noncomputable def m_lettered : M := runD 5 ir_lettered
def N_measure_of : List Str := ["reckoning"]
noncomputable def ir_measure_of : Ss :=
(.cons (.ret (.ix (.call "lettered" m_lettered (.cons (.var 0) .nil)) (.int 0)))
.nil)
noncomputable def m_measure_of : M := runD 1 ir_measure_of
def N_alike : List Str := ["reckoning"]
noncomputable def ir_alike : Ss :=
(.cons (.ret (.ix (.call "lettered" m_lettered (.cons (.var 0) .nil)) (.int 1)))
.nil)
noncomputable def m_alike : M := runD 1 ir_alike
def N__law_cell_at : List Str := ["_law_script", "_law_k"]
noncomputable def ir__law_cell_at : Ss :=
(.cons (.ifs (.cmp .lt (.var 1) (.bi .len (.cons (.var 0) .nil)))
(.cons (.ret (.bin .mod (.ix (.var 0) (.var 1)) (.int 1000000000000000003)))
.nil)
.nil)
(.cons (.ret (.int 0))
.nil))
noncomputable def m__law_cell_at : M := runD 2 ir__law_cell_at
def N__law_mix : List Str := ["_law_cell", "_law_k", "_law_number_here"]
noncomputable def ir__law_mix : Ss :=
(.cons (.asg (.nm 2) (.bin .mod (.bin .add (.bin .add (.bin .mul (.var 0) (.int 48271)) (.bin .mul (.var 1) (.int 69621))) (.int 11)) (.int 2147483647)))
(.cons (.ret (.bin .mod (.bin .add (.bin .add (.bin .mul (.var 2) (.var 2)) (.bin .mul (.int 7) (.var 2))) (.var 1)) (.int 2147483629)))
.nil))
noncomputable def m__law_mix : M := runD 3 ir__law_mix
def N__law_words : List Str := ["_law_cell", "_law_many", "_law_signs", "_law_size", "_law_place", "_law_base", "_law_way", "_law_found", "_law_k", "_law_sign", "_law_word"]
noncomputable def ir__law_words : Ss :=
(.cons (.asg (.nm 2) (.str "abcdefghijklmnopqrstuvwxyz"))
(.cons (.asg (.nm 3) (.bin .add (.int 1) (.bin .mod (.var 0) (.int 8))))
(.cons (.asg (.nm 4) (.bin .mod (.bin .fdiv (.var 0) (.int 8)) (.var 3)))
(.cons (.asg (.nm 5) (.ix (.var 2) (.bin .mod (.bin .fdiv (.var 0) (.int 64)) (.int 26))))
(.frz 5
(.cons (.asg (.nm 6) (.bin .mod (.bin .fdiv (.var 0) (.int 3)) (.int 4)))
(.cons (.asg (.nm 7) (.lst .nil))
(.cons (.fors (.nm 8) (.rng1 (.var 1)) [8, 9, 10]
(.cons (.asg (.nm 9) (.ix (.var 2) (.bin .mod (.bin .add (.bin .fdiv (.var 0) (.int 1664)) (.bin .mul (.int 5) (.var 8))) (.int 26))))
(.frz 9
(.cons (.asg (.nm 10) (.bin .add (.bin .add (.bin .mul (.var 5) (.var 4)) (.var 9)) (.bin .mul (.var 5) (.bin .sub (.bin .sub (.var 3) (.int 1)) (.var 4)))))
(.cons (.ifs (.cmp .eq (.var 6) (.int 0))
(.cons (.asg (.nm 10) (.bin .add (.var 9) (.bin .mul (.var 5) (.bin .mod (.bin .add (.bin .mul (.int 3) (.var 8)) (.bin .fdiv (.var 0) (.int 9))) (.int 8)))))
.nil)
.nil)
(.cons (.ifs (.and (.cmp .eq (.var 6) (.int 1)) (.cmp .lt (.var 8) (.int 8)))
(.cons (.asg (.nm 10) (.bin .mul (.var 5) (.bin .add (.int 1) (.bin .mod (.bin .add (.bin .mul (.int 3) (.var 8)) (.bin .fdiv (.var 0) (.int 9))) (.int 8)))))
.nil)
.nil)
(.cons (.ifs (.and (.cmp .eq (.var 6) (.int 1)) (.cmp .gt (.var 8) (.int 7)))
(.cons (.asg (.nm 10) (.bin .add (.ix (.var 2) (.bin .mod (.bin .sub (.bin .add (.bin .fdiv (.var 0) (.int 64)) (.var 8)) (.int 7)) (.int 26))) (.bin .mul (.var 5) (.bin .mod (.var 8) (.int 8)))))
.nil)
.nil)
(.cons (.app 7 (.var 10))
.nil))))))))
(.cons (.ret (.var 7))
.nil)))))))))
noncomputable def m__law_words : M := runD 11 ir__law_words
def N__law_made : List Str := ["_law_powers", "_law_letter"]
noncomputable def ir__law_made : Ss :=
(.cons (.ret (.bi .tuple (.cons (.lc (.tup (.cons (.var 1) (.cons (.ix (.var 0) (.var 1)) .nil))) (.nm 1) [("_law_letter", 1)] (.seq (.bi .sorted (.cons (.var 0) .nil))) (.yes (.cmp .ne (.ix (.var 0) (.var 1)) (.int 0)))) .nil)))
.nil)
noncomputable def m__law_made : M := runD 2 ir__law_made
def N__law_whole : List Str := ["_law_found"]
noncomputable def ir__law_whole : Ss :=
(.cons (.ret (.and (.isi (.var 0) "int") (.not (.isi (.var 0) "bool"))))
.nil)
noncomputable def m__law_whole : M := runD 1 ir__law_whole
def N__law_is_measure : List Str := ["_law_found", "_law_ahead", "_law_pair"]
noncomputable def ir__law_is_measure : Ss :=
(.cons (.ifs (.not (.isi (.var 0) "tuple"))
(.cons (.ret (.bl false))
.nil)
.nil)
(.cons (.asg (.nm 1) (.str ""))
(.cons (.fors (.nm 2) (.seq (.var 0)) [2]
(.cons (.ifs (.or (.not (.isi (.var 2) "tuple")) (.or (.cmp .ne (.bi .len (.cons (.var 2) .nil)) (.int 2)) (.or (.not (.isi (.ix (.var 2) (.int 0)) "str")) (.not (.call "_law_whole" m__law_whole (.cons (.ix (.var 2) (.int 1)) .nil))))))
(.cons (.ret (.bl false))
.nil)
.nil)
(.cons (.ifs (.or (.cmp .le (.ix (.var 2) (.int 0)) (.var 1)) (.cmp .eq (.ix (.var 2) (.int 1)) (.int 0)))
(.cons (.ret (.bl false))
.nil)
.nil)
(.cons (.asg (.nm 1) (.ix (.var 2) (.int 0)))
(.frz 1
.nil)))))
(.cons (.ret (.bl true))
.nil))))
noncomputable def m__law_is_measure : M := runD 3 ir__law_is_measure
def N__law_small : List Str := ["_law_cell", "_law_letters", "_law_powers", "_law_k", "_law_more", "_law_many"]
noncomputable def ir__law_small : Ss :=
(.cons (.asg (.nm 2) .dic0)
(.cons (.fors (.nm 3) (.rng1 (.bin .mod (.var 0) (.int 4))) [3, 4, 5]
(.cons (.asg (.nm 4) (.call "_law_mix" m__law_mix (.cons (.var 0) (.cons (.var 3) .nil))))
(.frz 4
(.cons (.asg (.nm 5) (.ix (.lst (.cons (.bin .sub (.bin .mod (.bin .fdiv (.var 4) (.bi .len (.cons (.var 1) .nil))) (.int 5)) (.int 2)) (.cons (.bin .sub (.bin .mod (.bin .fdiv (.var 4) (.int 256)) (.int 41)) (.int 20)) .nil))) (.bin .fdiv (.bin .mod (.bin .fdiv (.var 4) (.int 16)) (.int 9)) (.int 8))))
(.frz 5
(.cons (.put 2 (.ix (.var 1) (.bin .mod (.var 4) (.bi .len (.cons (.var 1) .nil)))) (.var 5))
.nil))))))
(.frz 2
(.cons (.ret (.call "_law_made" m__law_made (.cons (.var 2) .nil)))
.nil))))
noncomputable def m__law_small : M := runD 6 ir__law_small
def N__law_shared : List Str := ["_law_one", "_law_other", "_law_rest"]
def fuel__law_shared_0 : SD → Nat := fuelI 1
noncomputable def ir__law_shared : Ss :=
(.cons (.whl fuel__law_shared_0 (.cmp .ne (.var 1) (.int 0)) [2]
(.cons (.asg (.nm 2) (.bin .mod (.var 0) (.var 1)))
(.cons (.asg (.nm 0) (.var 1))
(.frz 0
(.cons (.asg (.nm 1) (.var 2))
(.frz 1
.nil))))))
(.cons (.ret (.var 0))
.nil))
noncomputable def m__law_shared : M := runD 3 ir__law_shared
def N__law_lowest : List Str := ["_law_above", "_law_below", "_law_most"]
noncomputable def ir__law_lowest : Ss :=
(.cons (.asg (.nm 2) (.call "_law_shared" m__law_shared (.cons (.bi .abs (.cons (.var 0) .nil)) (.cons (.bi .abs (.cons (.var 1) .nil)) .nil))))
(.frz 2
(.cons (.ifs (.cmp .lt (.var 1) (.int 0))
(.cons (.asg (.nm 2) (.bin .sub (.int 0) (.var 2)))
.nil)
.nil)
(.cons (.ret (.tup (.cons (.bin .fdiv (.var 0) (.var 2)) (.cons (.bin .fdiv (.var 1) (.var 2)) .nil))))
.nil))))
noncomputable def m__law_lowest : M := runD 3 ir__law_lowest
def N__law_number : List Str := ["_law_cell"]
noncomputable def ir__law_number : Ss :=
(.cons (.ifs (.cmp .lt (.bin .mod (.var 0) (.int 6)) (.int 4))
(.cons (.ret (.call "_law_lowest" m__law_lowest (.cons (.bin .sub (.bin .mod (.bin .fdiv (.var 0) (.int 6)) (.int 41)) (.int 20)) (.cons (.bin .add (.int 1) (.bin .mod (.bin .fdiv (.var 0) (.int 246)) (.int 5))) .nil))))
.nil)
.nil)
(.cons (.ifs (.cmp .eq (.bin .mod (.var 0) (.int 6)) (.int 4))
(.cons (.ret (.tup (.cons (.int 0) (.cons (.int 1) .nil))))
.nil)
.nil)
(.cons (.ret (.call "_law_lowest" m__law_lowest (.cons (.bin .sub (.bin .mod (.bin .mul (.bin .fdiv (.var 0) (.bin .pow (.int 6) (.int 3))) (.int 7)) (.bin .add (.bin .mul (.int 2) (.bin .pow (.int 10) (.int 9))) (.int 1))) (.bin .pow (.int 10) (.int 9))) (.cons (.bin .add (.int 1) (.bin .mod (.bin .fdiv (.var 0) (.int 6)) (.bin .pow (.int 10) (.int 9)))) .nil))))
.nil)))
noncomputable def m__law_number : M := runD 1 ir__law_number
def N__law_leaf : List Str := ["_law_cell", "_law_words_here", "_law_bases", "_law_more"]
noncomputable def ir__law_leaf : Ss :=
(.cons (.asg (.nm 3) (.bin .fdiv (.var 0) (.int 6)))
(.cons (.ifs (.cmp .lt (.bin .mod (.var 0) (.int 6)) (.int 3))
(.cons (.ret (.tup (.cons (.str "input") (.cons (.ix (.var 1) (.bin .mod (.var 3) (.bi .len (.cons (.var 1) .nil)))) .nil))))
.nil)
.nil)
(.cons (.ifs (.cmp .eq (.bin .mod (.var 0) (.int 6)) (.int 3))
(.cons (.ret (.tup (.cons (.str "nought") .nil)))
.nil)
.nil)
(.cons (.ret (.tup (.cons (.str "is") (.cons (.call "_law_number" m__law_number (.cons (.call "_law_mix" m__law_mix (.cons (.var 3) (.cons (.int 9) .nil))) .nil)) (.cons (.call "_law_small" m__law_small (.cons (.var 3) (.cons (.var 2) .nil))) .nil)))))
.nil))))
noncomputable def m__law_leaf : M := runD 4 ir__law_leaf
def N__law_tree : List Str := ["_law_cell", "_law_depth", "_law_names", "_law_powers", "_law_way", "_law_one", "_law_two", "_law_three"]
noncomputable def ir__law_tree (self_ : M) : Ss :=
(.cons (.asg (.nm 4) (.bin .mod (.var 0) (.int 9)))
(.cons (.ifs (.or (.cmp .lt (.var 1) (.int 1)) (.cmp .lt (.var 4) (.int 2)))
(.cons (.ret (.call "_law_leaf" m__law_leaf (.cons (.bin .fdiv (.var 0) (.int 9)) (.cons (.ix (.var 2) (.int 0)) (.cons (.ix (.var 2) (.int 1)) .nil)))))
.nil)
.nil)
(.cons (.asg (.nm 5) (.call "_law_tree" self_ (.cons (.call "_law_mix" m__law_mix (.cons (.var 0) (.cons (.int 1) .nil))) (.cons (.bin .sub (.var 1) (.int 1)) (.cons (.var 2) (.cons (.bin .sub (.var 3) (.bin .fdiv (.var 4) (.int 8))) .nil))))))
(.frz 5
(.cons (.ifs (.and (.cmp .eq (.var 4) (.int 8)) (.cmp .gt (.var 3) (.int 0)))
(.cons (.ret (.tup (.cons (.str "power") (.cons (.var 5) (.cons (.bin .sub (.bin .mod (.bin .fdiv (.var 0) (.int 9)) (.int 9)) (.int 4)) .nil)))))
.nil)
.nil)
(.cons (.asg (.nm 6) (.call "_law_tree" self_ (.cons (.call "_law_mix" m__law_mix (.cons (.var 0) (.cons (.int 2) .nil))) (.cons (.bin .sub (.var 1) (.int 1)) (.cons (.var 2) (.cons (.var 3) .nil))))))
(.frz 6
(.cons (.ifs (.cmp .eq (.var 4) (.int 7))
(.cons (.asg (.nm 7) (.call "_law_tree" self_ (.cons (.call "_law_mix" m__law_mix (.cons (.var 0) (.cons (.int 3) .nil))) (.cons (.bin .sub (.var 1) (.int 2)) (.cons (.var 2) (.cons (.var 3) .nil))))))
(.frz 7
(.cons (.ret (.tup (.cons (.str "less") (.cons (.var 5) (.cons (.var 6) (.cons (.var 7) (.cons (.call "_law_tree" self_ (.cons (.call "_law_mix" m__law_mix (.cons (.var 0) (.cons (.int 4) .nil))) (.cons (.bin .sub (.var 1) (.int 2)) (.cons (.var 2) (.cons (.var 3) .nil))))) .nil)))))))
.nil)))
.nil)
(.cons (.ret (.tup (.cons (.ix (.lst (.cons (.str "plus") (.cons (.str "minus") (.cons (.str "times") (.cons (.str "over") .nil))))) (.bin .mod (.bin .fdiv (.var 0) (.int 9)) (.int 4))) (.cons (.var 5) (.cons (.var 6) .nil)))))
.nil)))))))))
noncomputable def m__law_tree : Nat → M
  | 0 => fun _ => .stuck
  | k + 1 => runD 8 (ir__law_tree (m__law_tree k))
def N__law_parts : List Str := ["_law_tree_here"]
noncomputable def ir__law_parts : Ss :=
(.cons (.ifs (.or (.cmp .eq (.ix (.var 0) (.int 0)) (.str "is")) (.cmp .eq (.ix (.var 0) (.int 0)) (.str "input")))
(.cons (.ret (.lst .nil))
.nil)
.nil)
(.cons (.ifs (.cmp .eq (.ix (.var 0) (.int 0)) (.str "power"))
(.cons (.ret (.lst (.cons (.ix (.var 0) (.int 1)) .nil)))
.nil)
.nil)
(.cons (.ret (.bi .list (.cons (.slf (.var 0) (.int 1)) .nil)))
.nil)))
noncomputable def m__law_parts : M := runD 1 ir__law_parts
def N__law_noughts : List Str := ["_law_tree_here", "_law_part"]
noncomputable def ir__law_noughts (self_ : M) : Ss :=
(.cons (.ifs (.cmp .eq (.ix (.var 0) (.int 0)) (.str "nought"))
(.cons (.ret (.int 1))
.nil)
.nil)
(.cons (.ret (.bi .sum (.cons (.lc (.call "_law_noughts" self_ (.cons (.var 1) .nil)) (.nm 1) [("_law_part", 1)] (.seq (.call "_law_parts" m__law_parts (.cons (.var 0) .nil))) .no) .nil)))
.nil))
noncomputable def m__law_noughts : Nat → M
  | 0 => fun _ => .stuck
  | k + 1 => runD 2 (ir__law_noughts (m__law_noughts k))
def N__law_times : List Str := ["_law_one", "_law_other", "_law_by", "_law_powers", "_law_letter", "_law_many"]
noncomputable def ir__law_times : Ss :=
(.cons (.asg (.nm 3) (.bi .dict (.cons (.var 0) .nil)))
(.cons (.fors (.tp [4, 5]) (.seq (.var 1)) [4, 5]
(.cons (.put 3 (.var 4) (.bin .add (.getd (.var 3) (.var 4) (.int 0)) (.bin .mul (.var 5) (.var 2))))
.nil))
(.frz 3
(.cons (.ret (.call "_law_made" m__law_made (.cons (.var 3) .nil)))
.nil))))
noncomputable def m__law_times : M := runD 6 ir__law_times
def N__law_walk : List Str := ["_law_tree_here", "_law_names", "_law_given", "_law_found", "_law_rows", "_law_part", "_law_pair"]
noncomputable def ir__law_walk (self_ : M) : Ss :=
(.cons (.ifs (.cmp .eq (.ix (.var 0) (.int 0)) (.str "is"))
(.cons (.ret (.tup (.cons (.ix (.var 0) (.int 2)) (.cons (.lst .nil) .nil))))
.nil)
.nil)
(.cons (.ifs (.cmp .eq (.ix (.var 0) (.int 0)) (.str "nought"))
(.cons (.ret (.tup (.cons (.ix (.var 2) (.int 0)) (.cons (.lst .nil) .nil))))
.nil)
.nil)
(.cons (.ifs (.cmp .eq (.ix (.var 0) (.int 0)) (.str "input"))
(.cons (.ret (.tup (.cons (.ix (.var 1) (.ix (.var 0) (.int 1))) (.cons (.lst .nil) .nil))))
.nil)
.nil)
(.cons (.asg (.nm 3) (.lst .nil))
(.cons (.asg (.nm 4) (.lst .nil))
(.frz 4
(.cons (.fors (.nm 5) (.seq (.call "_law_parts" m__law_parts (.cons (.var 0) .nil))) [5, 6]
(.cons (.asg (.nm 6) (.call "_law_walk" self_ (.cons (.var 5) (.cons (.var 1) (.cons (.var 2) .nil)))))
(.frz 6
(.cons (.asg (.nm 2) (.slf (.var 2) (.call "_law_noughts" (m__law_noughts 20) (.cons (.var 5) .nil))))
(.frz 2
(.cons (.app 3 (.ix (.var 6) (.int 0)))
(.cons (.asg (.nm 4) (.bin .add (.var 4) (.ix (.var 6) (.int 1))))
(.frz 4
.nil))))))))
(.frz 3
(.cons (.ifs (.cmp .eq (.ix (.var 0) (.int 0)) (.str "power"))
(.cons (.ret (.tup (.cons (.call "_law_times" m__law_times (.cons (.tup .nil) (.cons (.ix (.var 3) (.int 0)) (.cons (.ix (.var 0) (.int 2)) .nil)))) (.cons (.var 4) .nil))))
.nil)
.nil)
(.cons (.ifs (.cmp .eq (.ix (.var 0) (.int 0)) (.str "times"))
(.cons (.ret (.tup (.cons (.call "_law_times" m__law_times (.cons (.ix (.var 3) (.int 0)) (.cons (.ix (.var 3) (.int 1)) (.cons (.int 1) .nil)))) (.cons (.var 4) .nil))))
.nil)
.nil)
(.cons (.ifs (.cmp .eq (.ix (.var 0) (.int 0)) (.str "over"))
(.cons (.ret (.tup (.cons (.call "_law_times" m__law_times (.cons (.ix (.var 3) (.int 0)) (.cons (.ix (.var 3) (.int 1)) (.cons (.neg (.int 1)) .nil)))) (.cons (.var 4) .nil))))
.nil)
.nil)
(.cons (.asg (.nm 4) (.bin .add (.var 4) (.lst (.cons (.call "_law_times" m__law_times (.cons (.ix (.var 3) (.int 0)) (.cons (.ix (.var 3) (.int 1)) (.cons (.neg (.int 1)) .nil)))) .nil))))
(.frz 4
(.cons (.ifs (.cmp .eq (.ix (.var 0) (.int 0)) (.str "less"))
(.cons (.asg (.nm 4) (.bin .add (.var 4) (.lst (.cons (.call "_law_times" m__law_times (.cons (.ix (.var 3) (.int 2)) (.cons (.ix (.var 3) (.int 3)) (.cons (.neg (.int 1)) .nil)))) .nil))))
(.frz 4
(.cons (.ret (.tup (.cons (.ix (.var 3) (.int 2)) (.cons (.var 4) .nil))))
.nil)))
.nil)
(.cons (.ret (.tup (.cons (.ix (.var 3) (.int 0)) (.cons (.var 4) .nil))))
.nil)))))))))))))))
noncomputable def m__law_walk : Nat → M
  | 0 => fun _ => .stuck
  | k + 1 => runD 7 (ir__law_walk (m__law_walk k))
def N__law_inputs : List Str := ["_law_tree_here", "_law_found", "_law_part"]
noncomputable def ir__law_inputs (self_ : M) : Ss :=
(.cons (.ifs (.cmp .eq (.ix (.var 0) (.int 0)) (.str "input"))
(.cons (.ret (.lst (.cons (.ix (.var 0) (.int 1)) .nil)))
.nil)
.nil)
(.cons (.asg (.nm 1) (.lst .nil))
(.frz 1
(.cons (.fors (.nm 2) (.seq (.call "_law_parts" m__law_parts (.cons (.var 0) .nil))) [2]
(.cons (.asg (.nm 1) (.bin .add (.var 1) (.call "_law_inputs" self_ (.cons (.var 2) .nil))))
(.frz 1
.nil)))
(.cons (.ret (.sset (.var 1)))
.nil)))))
noncomputable def m__law_inputs : Nat → M
  | 0 => fun _ => .stuck
  | k + 1 => runD 3 (ir__law_inputs (m__law_inputs k))
def N_law : List Str := ["_law_script", "_law_words_here", "_law_bases", "_law_tree_here", "_law_upto", "_law_cell", "_law_names", "_law_name", "_law_measure", "_law_rows", "_law_found", "_law_row", "_law_whole_here", "_law_k"]
noncomputable def ir_law : Ss :=
(.cons (.asg (.nm 1) (.call "_law_words" m__law_words (.cons (.call "_law_cell_at" m__law_cell_at (.cons (.var 0) (.cons (.int 0) .nil))) (.cons (.int 4) .nil))))
(.frz 1
(.cons (.asg (.nm 2) (.call "_law_words" m__law_words (.cons (.call "_law_cell_at" m__law_cell_at (.cons (.var 0) (.cons (.bi .int (.cons (.cmp .gt (.bin .mod (.call "_law_cell_at" m__law_cell_at (.cons (.var 0) (.cons (.int 1) .nil))) (.int 3)) (.int 0)) .nil)) .nil))) (.cons (.int 3) .nil))))
(.frz 2
(.cons (.asg (.nm 3) (.call "_law_tree" (m__law_tree 20) (.cons (.call "_law_cell_at" m__law_cell_at (.cons (.var 0) (.cons (.int 2) .nil))) (.cons (.ix (.lst (.cons (.int 1) (.cons (.int 2) (.cons (.int 3) (.cons (.int 3) .nil))))) (.bin .mod (.call "_law_cell_at" m__law_cell_at (.cons (.var 0) (.cons (.int 3) .nil))) (.int 4))) (.cons (.tup (.cons (.var 1) (.cons (.var 2) .nil))) (.cons (.int 2) .nil))))))
(.frz 3
(.cons (.asg (.nm 4) (.bi .min2 (.cons (.bi .len (.cons (.var 0) .nil)) (.cons (.ix (.lst (.cons (.int 4) (.cons (.int 10) .nil))) (.bin .mod (.bin .fdiv (.call "_law_cell_at" m__law_cell_at (.cons (.var 0) (.cons (.int 3) .nil))) (.int 4)) (.int 2))) .nil))))
(.frz 4
(.cons (.fors (.nm 5) (.seq (.lc (.call "_law_cell_at" m__law_cell_at (.cons (.var 0) (.cons (.var 13) .nil))) (.nm 13) [("_law_k", 13)] (.rng2 (.int 4) (.var 4)) .no)) [5]
(.cons (.asg (.nm 3) (.tup (.cons (.ix (.lst (.cons (.str "plus") (.cons (.str "minus") (.cons (.str "times") .nil)))) (.bin .mod (.var 5) (.int 3))) (.cons (.call "_law_leaf" m__law_leaf (.cons (.bin .fdiv (.var 5) (.int 3)) (.cons (.var 1) (.cons (.var 2) .nil)))) (.cons (.var 3) .nil)))))
.nil))
(.cons (.asg (.nm 6) .dic0)
(.cons (.fors (.nm 7) (.seq (.call "_law_inputs" (m__law_inputs 20) (.cons (.var 3) .nil))) [7]
(.cons (.put 6 (.var 7) (.tup (.cons (.tup (.cons (.bin .add (.str "=") (.var 7)) (.cons (.int 1) .nil))) .nil)))
.nil))
(.frz 6
(.cons (.asg (.tp [8, 9]) (.call "_law_walk" (m__law_walk 20) (.cons (.var 3) (.cons (.var 6) (.cons (.lc (.tup (.cons (.tup (.cons (.bin .add (.str "0") (.bi .str (.cons (.var 13) .nil))) (.cons (.int 1) .nil))) .nil)) (.nm 13) [("_law_k", 13)] (.rng1 (.call "_law_noughts" (m__law_noughts 20) (.cons (.var 3) .nil))) .no) .nil)))))
(.cons (.asg (.nm 10) (.call "alike" m_alike (.cons (.var 3) .nil)))
(.frz 10
(.cons (.ifs (.or (.not (.isi (.var 10) "list")) (.cmp .ne (.var 10) (.var 9)))
(.cons (.ret (.bl false))
.nil)
.nil)
(.cons (.fors (.nm 11) (.seq (.var 10)) [11]
(.cons (.ifs (.not (.call "_law_is_measure" m__law_is_measure (.cons (.var 11) .nil)))
(.cons (.ret (.bl false))
.nil)
.nil)
.nil))
(.cons (.asg (.nm 12) (.call "measure_of" m_measure_of (.cons (.var 3) .nil)))
(.frz 12
(.cons (.ret (.and (.call "_law_is_measure" m__law_is_measure (.cons (.var 12) .nil)) (.cmp .eq (.var 12) (.var 8))))
.nil))))))))))))))))))))
noncomputable def m_law : M := runD 14 ir_law
end MPk07

namespace MPk07
open PySem PySem.Spec PyProof.Rows L2 MP
def top (i : Nat) : Stmt := PySem.Challenge.pw_measurekind_k07_alike_told.main.body.getD i (.Pass ⟨0, 0, 0, 0⟩)
abbrev d_made : He.DefD := ⟨("made", none), "made", "made", defArgs (top 1), defBody (top 1), defScope (top 1), [], []⟩
theorem sc_made : FnScope N_made ["powers"] (defScope (top 1)) := ⟨rfl, rfl, rfl, by decide +kernel, rfl, by decide +kernel, by decide +kernel⟩
theorem ck_made : chkSs ⟨N_made, defScope (top 1), true⟩ ir_made (defBody (top 1)) = true := by decide +kernel
theorem ok_made {P : Program} {w : World} {K : PySem.W.Frag} {mg : Str → Option Value} {base : Heap} {f : Addr} {fd : FuncData} (hg : mg "made" = some (.ref f)) (fr : ∀ x ∈ freeNames, mg x = none) 
    (F : FunD K "made" "made" (defArgs (top 1)) (defBody (top 1)) (defScope (top 1)) [] [] f fd) : FnOk P w K mg base (L2N.CX P w) 1 f fd ["powers"] (spM K mg 1 m_made) ∧ CallOk P w K mg base 1 "made" 1 m_made := by
  have o : FnOk P w K mg base (L2N.CX P w) 1 f fd ["powers"] (spM K mg 1 m_made) := fn_ok (k := 0) F sc_made ck_made (by simp only [ir_made, GoodSs, GoodS, MP.Good, Goods, GoodIt, GoodO, Es.len, Nat.reduceAdd, Nat.zero_add, and_self, and_true, true_and]) fr fun ds _ => Le.refl _
  exact ⟨o, call_ok hg F o (F.bindsN fun _ _ _ _ _ _ us hl => match us, hl with | [_], _ => rfl)⟩
abbrev d_times : He.DefD := ⟨("times", none), "times", "times", defArgs (top 2), defBody (top 2), defScope (top 2), [], []⟩
theorem sc_times : FnScope N_times ["one", "other"] (defScope (top 2)) := ⟨rfl, rfl, rfl, by decide +kernel, rfl, by decide +kernel, by decide +kernel⟩
theorem ck_times : chkSs ⟨N_times, defScope (top 2), true⟩ ir_times (defBody (top 2)) = true := by decide +kernel
theorem ok_times {P : Program} {w : World} {K : PySem.W.Frag} {mg : Str → Option Value} {base : Heap} {f : Addr} {fd : FuncData} (hg : mg "times" = some (.ref f)) (fr : ∀ x ∈ freeNames, mg x = none) (c_made : CallOk P w K mg base 1 "made" 1 m_made)
    (F : FunD K "times" "times" (defArgs (top 2)) (defBody (top 2)) (defScope (top 2)) [] [] f fd) : FnOk P w K mg base (L2N.CX P w) 2 f fd ["one", "other"] (spM K mg 2 m_times) ∧ CallOk P w K mg base 2 "times" 2 m_times := by
  have c_made := c_made.mono (k := 1) (by decide)
  have o : FnOk P w K mg base (L2N.CX P w) 2 f fd ["one", "other"] (spM K mg 2 m_times) := fn_ok (k := 1) F sc_times ck_times (by simp only [ir_times, GoodSs, GoodS, MP.Good, Goods, GoodIt, GoodO, Es.len, Nat.reduceAdd, Nat.zero_add, and_self, and_true, true_and, c_made]) fr fun ds _ => Le.refl _
  exact ⟨o, call_ok hg F o (F.bindsN fun _ _ _ _ _ _ us hl => match us, hl with | [_, _], _ => rfl)⟩
abbrev d_power : He.DefD := ⟨("power", none), "power", "power", defArgs (top 3), defBody (top 3), defScope (top 3), [], []⟩
theorem sc_power : FnScope N_power ["one", "n"] (defScope (top 3)) := ⟨rfl, rfl, rfl, by decide +kernel, rfl, by decide +kernel, by decide +kernel⟩
theorem ck_power : chkSs ⟨N_power, defScope (top 3), true⟩ ir_power (defBody (top 3)) = true := by decide +kernel
theorem ok_power {P : Program} {w : World} {K : PySem.W.Frag} {mg : Str → Option Value} {base : Heap} {f : Addr} {fd : FuncData} (hg : mg "power" = some (.ref f)) (fr : ∀ x ∈ freeNames, mg x = none) 
    (F : FunD K "power" "power" (defArgs (top 3)) (defBody (top 3)) (defScope (top 3)) [] [] f fd) : FnOk P w K mg base (L2N.CX P w) 1 f fd ["one", "n"] (spM K mg 2 m_power) ∧ CallOk P w K mg base 1 "power" 2 m_power := by
  have o : FnOk P w K mg base (L2N.CX P w) 1 f fd ["one", "n"] (spM K mg 2 m_power) := fn_ok (k := 0) F sc_power ck_power (by simp only [ir_power, GoodSs, GoodS, MP.Good, Goods, GoodIt, GoodO, Es.len, Nat.reduceAdd, Nat.zero_add, and_self, and_true, true_and]) fr fun ds _ => Le.refl _
  exact ⟨o, call_ok hg F o (F.bindsN fun _ _ _ _ _ _ us hl => match us, hl with | [_, _], _ => rfl)⟩
abbrev d_over : He.DefD := ⟨("over", none), "over", "over", defArgs (top 4), defBody (top 4), defScope (top 4), [], []⟩
theorem sc_over : FnScope N_over ["one", "other"] (defScope (top 4)) := ⟨rfl, rfl, rfl, by decide +kernel, rfl, by decide +kernel, by decide +kernel⟩
theorem ck_over : chkSs ⟨N_over, defScope (top 4), true⟩ ir_over (defBody (top 4)) = true := by decide +kernel
theorem ok_over {P : Program} {w : World} {K : PySem.W.Frag} {mg : Str → Option Value} {base : Heap} {f : Addr} {fd : FuncData} (hg : mg "over" = some (.ref f)) (fr : ∀ x ∈ freeNames, mg x = none) (c_times : CallOk P w K mg base 2 "times" 2 m_times) (c_power : CallOk P w K mg base 1 "power" 2 m_power)
    (F : FunD K "over" "over" (defArgs (top 4)) (defBody (top 4)) (defScope (top 4)) [] [] f fd) : FnOk P w K mg base (L2N.CX P w) 3 f fd ["one", "other"] (spM K mg 2 m_over) ∧ CallOk P w K mg base 3 "over" 2 m_over := by
  have c_times := c_times.mono (k := 2) (by decide)
  have c_power := c_power.mono (k := 2) (by decide)
  have o : FnOk P w K mg base (L2N.CX P w) 3 f fd ["one", "other"] (spM K mg 2 m_over) := fn_ok (k := 2) F sc_over ck_over (by simp only [ir_over, GoodSs, GoodS, MP.Good, Goods, GoodIt, GoodO, Es.len, Nat.reduceAdd, Nat.zero_add, and_self, and_true, true_and, c_times, c_power]) fr fun ds _ => Le.refl _
  exact ⟨o, call_ok hg F o (F.bindsN fun _ _ _ _ _ _ us hl => match us, hl with | [_, _], _ => rfl)⟩
abbrev d_parts_of : He.DefD := ⟨("parts_of", none), "parts_of", "parts_of", defArgs (top 6), defBody (top 6), defScope (top 6), [], []⟩
theorem sc_parts_of : FnScope N_parts_of ["reckoning"] (defScope (top 6)) := ⟨rfl, rfl, rfl, by decide +kernel, rfl, by decide +kernel, by decide +kernel⟩
theorem ck_parts_of : chkSs ⟨N_parts_of, defScope (top 6), true⟩ ir_parts_of (defBody (top 6)) = true := by decide +kernel
theorem ok_parts_of {P : Program} {w : World} {K : PySem.W.Frag} {mg : Str → Option Value} {base : Heap} {f : Addr} {fd : FuncData} (hg : mg "parts_of" = some (.ref f)) (fr : ∀ x ∈ freeNames, mg x = none) 
    (F : FunD K "parts_of" "parts_of" (defArgs (top 6)) (defBody (top 6)) (defScope (top 6)) [] [] f fd) : FnOk P w K mg base (L2N.CX P w) 1 f fd ["reckoning"] (spM K mg 1 m_parts_of) ∧ CallOk P w K mg base 1 "parts_of" 1 m_parts_of := by
  have o : FnOk P w K mg base (L2N.CX P w) 1 f fd ["reckoning"] (spM K mg 1 m_parts_of) := fn_ok (k := 0) F sc_parts_of ck_parts_of (by simp only [ir_parts_of, GoodSs, GoodS, MP.Good, Goods, GoodIt, GoodO, Es.len, Nat.reduceAdd, Nat.zero_add, and_self, and_true, true_and]) fr fun ds _ => Le.refl _
  exact ⟨o, call_ok hg F o (F.bindsN fun _ _ _ _ _ _ us hl => match us, hl with | [_], _ => rfl)⟩
abbrev d_all_inputs : He.DefD := ⟨("all_inputs", none), "all_inputs", "all_inputs", defArgs (top 7), defBody (top 7), defScope (top 7), [], []⟩
theorem sc_all_inputs : FnScope N_all_inputs ["reckoning"] (defScope (top 7)) := ⟨rfl, rfl, rfl, by decide +kernel, rfl, by decide +kernel, by decide +kernel⟩
theorem ck_all_inputs (self_ : M) : chkSs ⟨N_all_inputs, defScope (top 7), true⟩ (ir_all_inputs self_) (defBody (top 7)) = true := by kernel_rfl
theorem ok_all_inputs {P : Program} {w : World} {K : PySem.W.Frag} {mg : Str → Option Value} {base : Heap} {f : Addr} {fd : FuncData} (hg : mg "all_inputs" = some (.ref f)) (fr : ∀ x ∈ freeNames, mg x = none) (c_parts_of : CallOk P w K mg base 1 "parts_of" 1 m_parts_of)
    (F : FunD K "all_inputs" "all_inputs" (defArgs (top 7)) (defBody (top 7)) (defScope (top 7)) [] [] f fd) : ∀ k : Nat, FnOk P w K mg base (L2N.CX P w) (1 + k) f fd ["reckoning"] (spM K mg 1 (m_all_inputs k)) ∧ CallOk P w K mg base (1 + k) "all_inputs" 1 (m_all_inputs k) := by
  intro k
  induction k with
  | zero =>
    have z : FnOk P w K mg base (L2N.CX P w) (1 + 0) f fd ["reckoning"] (spM K mg 1 (m_all_inputs 0)) := fn_stuck
    exact ⟨z, call_ok hg F z (F.bindsN fun _ _ _ _ _ _ us hl => match us, hl with | [_], _ => rfl)⟩
  | succ k ih =>
    have ih := ih.2
    have c_parts_of := c_parts_of.mono (k := 1 + k) (by omega)
    have o : FnOk P w K mg base (L2N.CX P w) (1 + k + 1) f fd ["reckoning"] (spM K mg 1 (m_all_inputs (k + 1))) := fn_ok (k := 1 + k) F sc_all_inputs (ck_all_inputs _) (by simp only [ir_all_inputs, GoodSs, GoodS, MP.Good, Goods, GoodIt, GoodO, Es.len, Nat.reduceAdd, Nat.zero_add, and_self, and_true, true_and, ih, c_parts_of]) fr fun ds _ => Le.refl _
    exact ⟨o, call_ok hg F o (F.bindsN fun _ _ _ _ _ _ us hl => match us, hl with | [_], _ => rfl)⟩
abbrev d_inputs : He.DefD := ⟨("inputs", none), "inputs", "inputs", defArgs (top 8), defBody (top 8), defScope (top 8), [], []⟩
theorem sc_inputs : FnScope N_inputs ["reckoning"] (defScope (top 8)) := ⟨rfl, rfl, rfl, by decide +kernel, rfl, by decide +kernel, by decide +kernel⟩
theorem ck_inputs : chkSs ⟨N_inputs, defScope (top 8), true⟩ ir_inputs (defBody (top 8)) = true := by decide +kernel
theorem ok_inputs {P : Program} {w : World} {K : PySem.W.Frag} {mg : Str → Option Value} {base : Heap} {f : Addr} {fd : FuncData} (hg : mg "inputs" = some (.ref f)) (fr : ∀ x ∈ freeNames, mg x = none) (c_all_inputs : CallOk P w K mg base 21 "all_inputs" 1 (m_all_inputs 20))
    (F : FunD K "inputs" "inputs" (defArgs (top 8)) (defBody (top 8)) (defScope (top 8)) [] [] f fd) : FnOk P w K mg base (L2N.CX P w) 22 f fd ["reckoning"] (spM K mg 1 m_inputs) ∧ CallOk P w K mg base 22 "inputs" 1 m_inputs := by
  have c_all_inputs := c_all_inputs.mono (k := 21) (by decide)
  have o : FnOk P w K mg base (L2N.CX P w) 22 f fd ["reckoning"] (spM K mg 1 m_inputs) := fn_ok (k := 21) F sc_inputs ck_inputs (by simp only [ir_inputs, GoodSs, GoodS, MP.Good, Goods, GoodIt, GoodO, Es.len, Nat.reduceAdd, Nat.zero_add, and_self, and_true, true_and, c_all_inputs]) fr fun ds _ => Le.refl _
  exact ⟨o, call_ok hg F o (F.bindsN fun _ _ _ _ _ _ us hl => match us, hl with | [_], _ => rfl)⟩
abbrev d_noughts : He.DefD := ⟨("noughts", none), "noughts", "noughts", defArgs (top 9), defBody (top 9), defScope (top 9), [], []⟩
theorem sc_noughts : FnScope N_noughts ["reckoning"] (defScope (top 9)) := ⟨rfl, rfl, rfl, by decide +kernel, rfl, by decide +kernel, by decide +kernel⟩
theorem ck_noughts (self_ : M) : chkSs ⟨N_noughts, defScope (top 9), true⟩ (ir_noughts self_) (defBody (top 9)) = true := by kernel_rfl
theorem ok_noughts {P : Program} {w : World} {K : PySem.W.Frag} {mg : Str → Option Value} {base : Heap} {f : Addr} {fd : FuncData} (hg : mg "noughts" = some (.ref f)) (fr : ∀ x ∈ freeNames, mg x = none) (c_parts_of : CallOk P w K mg base 1 "parts_of" 1 m_parts_of)
    (F : FunD K "noughts" "noughts" (defArgs (top 9)) (defBody (top 9)) (defScope (top 9)) [] [] f fd) : ∀ k : Nat, FnOk P w K mg base (L2N.CX P w) (1 + k) f fd ["reckoning"] (spM K mg 1 (m_noughts k)) ∧ CallOk P w K mg base (1 + k) "noughts" 1 (m_noughts k) := by
  intro k
  induction k with
  | zero =>
    have z : FnOk P w K mg base (L2N.CX P w) (1 + 0) f fd ["reckoning"] (spM K mg 1 (m_noughts 0)) := fn_stuck
    exact ⟨z, call_ok hg F z (F.bindsN fun _ _ _ _ _ _ us hl => match us, hl with | [_], _ => rfl)⟩
  | succ k ih =>
    have ih := ih.2
    have c_parts_of := c_parts_of.mono (k := 1 + k) (by omega)
    have o : FnOk P w K mg base (L2N.CX P w) (1 + k + 1) f fd ["reckoning"] (spM K mg 1 (m_noughts (k + 1))) := fn_ok (k := 1 + k) F sc_noughts (ck_noughts _) (by simp only [ir_noughts, GoodSs, GoodS, MP.Good, Goods, GoodIt, GoodO, Es.len, Nat.reduceAdd, Nat.zero_add, and_self, and_true, true_and, ih, c_parts_of]) fr fun ds _ => Le.refl _
    exact ⟨o, call_ok hg F o (F.bindsN fun _ _ _ _ _ _ us hl => match us, hl with | [_], _ => rfl)⟩
abbrev d_walked : He.DefD := ⟨("walked", none), "walked", "walked", defArgs (top 11), defBody (top 11), defScope (top 11), [], []⟩
theorem sc_walked : FnScope N_walked ["reckoning", "names", "given", "first"] (defScope (top 11)) := ⟨rfl, rfl, rfl, by decide +kernel, rfl, by decide +kernel, by decide +kernel⟩
theorem ck_walked (self_ : M) : chkSs ⟨N_walked, defScope (top 11), true⟩ (ir_walked self_) (defBody (top 11)) = true := by kernel_rfl
theorem ok_walked {P : Program} {w : World} {K : PySem.W.Frag} {mg : Str → Option Value} {base : Heap} {f : Addr} {fd : FuncData} (hg : mg "walked" = some (.ref f)) (fr : ∀ x ∈ freeNames, mg x = none) (c_parts_of : CallOk P w K mg base 1 "parts_of" 1 m_parts_of) (c_noughts : CallOk P w K mg base 21 "noughts" 1 (m_noughts 20)) (c_power : CallOk P w K mg base 1 "power" 2 m_power) (c_times : CallOk P w K mg base 2 "times" 2 m_times) (c_over : CallOk P w K mg base 3 "over" 2 m_over)
    (F : FunD K "walked" "walked" (defArgs (top 11)) (defBody (top 11)) (defScope (top 11)) [] [] f fd) : ∀ k : Nat, FnOk P w K mg base (L2N.CX P w) (21 + k) f fd ["reckoning", "names", "given", "first"] (spM K mg 4 (m_walked k)) ∧ CallOk P w K mg base (21 + k) "walked" 4 (m_walked k) := by
  intro k
  induction k with
  | zero =>
    have z : FnOk P w K mg base (L2N.CX P w) (21 + 0) f fd ["reckoning", "names", "given", "first"] (spM K mg 4 (m_walked 0)) := fn_stuck
    exact ⟨z, call_ok hg F z (F.bindsN fun _ _ _ _ _ _ us hl => match us, hl with | [_, _, _, _], _ => rfl)⟩
  | succ k ih =>
    have ih := ih.2
    have c_parts_of := c_parts_of.mono (k := 21 + k) (by omega)
    have c_noughts := c_noughts.mono (k := 21 + k) (by omega)
    have c_power := c_power.mono (k := 21 + k) (by omega)
    have c_times := c_times.mono (k := 21 + k) (by omega)
    have c_over := c_over.mono (k := 21 + k) (by omega)
    have o : FnOk P w K mg base (L2N.CX P w) (21 + k + 1) f fd ["reckoning", "names", "given", "first"] (spM K mg 4 (m_walked (k + 1))) := fn_ok (k := 21 + k) F sc_walked (ck_walked _) (by simp only [ir_walked, GoodSs, GoodS, MP.Good, Goods, GoodIt, GoodO, Es.len, Nat.reduceAdd, Nat.zero_add, and_self, and_true, true_and, ih, c_parts_of, c_noughts, c_power, c_times, c_over]) fr fun ds _ => Le.refl _
    exact ⟨o, call_ok hg F o (F.bindsN fun _ _ _ _ _ _ us hl => match us, hl with | [_, _, _, _], _ => rfl)⟩
abbrev d_lettered : He.DefD := ⟨("lettered", none), "lettered", "lettered", defArgs (top 12), defBody (top 12), defScope (top 12), [], []⟩
theorem sc_lettered : FnScope N_lettered ["reckoning"] (defScope (top 12)) := ⟨rfl, rfl, rfl, by decide +kernel, rfl, by decide +kernel, by decide +kernel⟩
theorem ck_lettered : chkSs ⟨N_lettered, defScope (top 12), true⟩ ir_lettered (defBody (top 12)) = true := by decide +kernel
theorem ok_lettered {P : Program} {w : World} {K : PySem.W.Frag} {mg : Str → Option Value} {base : Heap} {f : Addr} {fd : FuncData} (hg : mg "lettered" = some (.ref f)) (fr : ∀ x ∈ freeNames, mg x = none) (c_inputs : CallOk P w K mg base 22 "inputs" 1 m_inputs) (c_noughts : CallOk P w K mg base 21 "noughts" 1 (m_noughts 20)) (c_walked : CallOk P w K mg base 41 "walked" 4 (m_walked 20))
    (F : FunD K "lettered" "lettered" (defArgs (top 12)) (defBody (top 12)) (defScope (top 12)) [] [] f fd) : FnOk P w K mg base (L2N.CX P w) 42 f fd ["reckoning"] (spM K mg 1 m_lettered) ∧ CallOk P w K mg base 42 "lettered" 1 m_lettered := by
  have c_inputs := c_inputs.mono (k := 41) (by decide)
  have c_noughts := c_noughts.mono (k := 41) (by decide)
  have c_walked := c_walked.mono (k := 41) (by decide)
  have o : FnOk P w K mg base (L2N.CX P w) 42 f fd ["reckoning"] (spM K mg 1 m_lettered) := fn_ok (k := 41) F sc_lettered ck_lettered (by simp only [ir_lettered, GoodSs, GoodS, MP.Good, Goods, GoodIt, GoodO, Es.len, Nat.reduceAdd, Nat.zero_add, and_self, and_true, true_and, c_inputs, c_noughts, c_walked]) fr fun ds _ => Le.refl _
  exact ⟨o, call_ok hg F o (F.bindsN fun _ _ _ _ _ _ us hl => match us, hl with | [_], _ => rfl)⟩
abbrev d_measure_of : He.DefD := ⟨("measure_of", none), "measure_of", "measure_of", defArgs (top 13), defBody (top 13), defScope (top 13), [], []⟩
theorem sc_measure_of : FnScope N_measure_of ["reckoning"] (defScope (top 13)) := ⟨rfl, rfl, rfl, by decide +kernel, rfl, by decide +kernel, by decide +kernel⟩
theorem ck_measure_of : chkSs ⟨N_measure_of, defScope (top 13), true⟩ ir_measure_of (defBody (top 13)) = true := by decide +kernel
theorem ok_measure_of {P : Program} {w : World} {K : PySem.W.Frag} {mg : Str → Option Value} {base : Heap} {f : Addr} {fd : FuncData} (hg : mg "measure_of" = some (.ref f)) (fr : ∀ x ∈ freeNames, mg x = none) (c_lettered : CallOk P w K mg base 42 "lettered" 1 m_lettered)
    (F : FunD K "measure_of" "measure_of" (defArgs (top 13)) (defBody (top 13)) (defScope (top 13)) [] [] f fd) : FnOk P w K mg base (L2N.CX P w) 43 f fd ["reckoning"] (spM K mg 1 m_measure_of) ∧ CallOk P w K mg base 43 "measure_of" 1 m_measure_of := by
  have c_lettered := c_lettered.mono (k := 42) (by decide)
  have o : FnOk P w K mg base (L2N.CX P w) 43 f fd ["reckoning"] (spM K mg 1 m_measure_of) := fn_ok (k := 42) F sc_measure_of ck_measure_of (by simp only [ir_measure_of, GoodSs, GoodS, MP.Good, Goods, GoodIt, GoodO, Es.len, Nat.reduceAdd, Nat.zero_add, and_self, and_true, true_and, c_lettered]) fr fun ds _ => Le.refl _
  exact ⟨o, call_ok hg F o (F.bindsN fun _ _ _ _ _ _ us hl => match us, hl with | [_], _ => rfl)⟩
abbrev d_alike : He.DefD := ⟨("alike", none), "alike", "alike", defArgs (top 14), defBody (top 14), defScope (top 14), [], []⟩
theorem sc_alike : FnScope N_alike ["reckoning"] (defScope (top 14)) := ⟨rfl, rfl, rfl, by decide +kernel, rfl, by decide +kernel, by decide +kernel⟩
theorem ck_alike : chkSs ⟨N_alike, defScope (top 14), true⟩ ir_alike (defBody (top 14)) = true := by decide +kernel
theorem ok_alike {P : Program} {w : World} {K : PySem.W.Frag} {mg : Str → Option Value} {base : Heap} {f : Addr} {fd : FuncData} (hg : mg "alike" = some (.ref f)) (fr : ∀ x ∈ freeNames, mg x = none) (c_lettered : CallOk P w K mg base 42 "lettered" 1 m_lettered)
    (F : FunD K "alike" "alike" (defArgs (top 14)) (defBody (top 14)) (defScope (top 14)) [] [] f fd) : FnOk P w K mg base (L2N.CX P w) 43 f fd ["reckoning"] (spM K mg 1 m_alike) ∧ CallOk P w K mg base 43 "alike" 1 m_alike := by
  have c_lettered := c_lettered.mono (k := 42) (by decide)
  have o : FnOk P w K mg base (L2N.CX P w) 43 f fd ["reckoning"] (spM K mg 1 m_alike) := fn_ok (k := 42) F sc_alike ck_alike (by simp only [ir_alike, GoodSs, GoodS, MP.Good, Goods, GoodIt, GoodO, Es.len, Nat.reduceAdd, Nat.zero_add, and_self, and_true, true_and, c_lettered]) fr fun ds _ => Le.refl _
  exact ⟨o, call_ok hg F o (F.bindsN fun _ _ _ _ _ _ us hl => match us, hl with | [_], _ => rfl)⟩
abbrev d__law_cell_at : He.DefD := ⟨("_law_cell_at", none), "_law_cell_at", "_law_cell_at", defArgs (top 16), defBody (top 16), defScope (top 16), [], []⟩
theorem sc__law_cell_at : FnScope N__law_cell_at ["_law_script", "_law_k"] (defScope (top 16)) := ⟨rfl, rfl, rfl, by decide +kernel, rfl, by decide +kernel, by decide +kernel⟩
theorem ck__law_cell_at : chkSs ⟨N__law_cell_at, defScope (top 16), true⟩ ir__law_cell_at (defBody (top 16)) = true := by decide +kernel
theorem ok__law_cell_at {P : Program} {w : World} {K : PySem.W.Frag} {mg : Str → Option Value} {base : Heap} {f : Addr} {fd : FuncData} (hg : mg "_law_cell_at" = some (.ref f)) (fr : ∀ x ∈ freeNames, mg x = none) 
    (F : FunD K "_law_cell_at" "_law_cell_at" (defArgs (top 16)) (defBody (top 16)) (defScope (top 16)) [] [] f fd) : FnOk P w K mg base (L2N.CX P w) 1 f fd ["_law_script", "_law_k"] (spM K mg 2 m__law_cell_at) ∧ CallOk P w K mg base 1 "_law_cell_at" 2 m__law_cell_at := by
  have o : FnOk P w K mg base (L2N.CX P w) 1 f fd ["_law_script", "_law_k"] (spM K mg 2 m__law_cell_at) := fn_ok (k := 0) F sc__law_cell_at ck__law_cell_at (by simp only [ir__law_cell_at, GoodSs, GoodS, MP.Good, Goods, GoodIt, GoodO, Es.len, Nat.reduceAdd, Nat.zero_add, and_self, and_true, true_and]) fr fun ds _ => Le.refl _
  exact ⟨o, call_ok hg F o (F.bindsN fun _ _ _ _ _ _ us hl => match us, hl with | [_, _], _ => rfl)⟩
abbrev d__law_mix : He.DefD := ⟨("_law_mix", none), "_law_mix", "_law_mix", defArgs (top 17), defBody (top 17), defScope (top 17), [], []⟩
theorem sc__law_mix : FnScope N__law_mix ["_law_cell", "_law_k"] (defScope (top 17)) := ⟨rfl, rfl, rfl, by decide +kernel, rfl, by decide +kernel, by decide +kernel⟩
theorem ck__law_mix : chkSs ⟨N__law_mix, defScope (top 17), true⟩ ir__law_mix (defBody (top 17)) = true := by decide +kernel
theorem ok__law_mix {P : Program} {w : World} {K : PySem.W.Frag} {mg : Str → Option Value} {base : Heap} {f : Addr} {fd : FuncData} (hg : mg "_law_mix" = some (.ref f)) (fr : ∀ x ∈ freeNames, mg x = none) 
    (F : FunD K "_law_mix" "_law_mix" (defArgs (top 17)) (defBody (top 17)) (defScope (top 17)) [] [] f fd) : FnOk P w K mg base (L2N.CX P w) 1 f fd ["_law_cell", "_law_k"] (spM K mg 2 m__law_mix) ∧ CallOk P w K mg base 1 "_law_mix" 2 m__law_mix := by
  have o : FnOk P w K mg base (L2N.CX P w) 1 f fd ["_law_cell", "_law_k"] (spM K mg 2 m__law_mix) := fn_ok (k := 0) F sc__law_mix ck__law_mix (by simp only [ir__law_mix, GoodSs, GoodS, MP.Good, Goods, GoodIt, GoodO, Es.len, Nat.reduceAdd, Nat.zero_add, and_self, and_true, true_and]) fr fun ds _ => Le.refl _
  exact ⟨o, call_ok hg F o (F.bindsN fun _ _ _ _ _ _ us hl => match us, hl with | [_, _], _ => rfl)⟩
abbrev d__law_words : He.DefD := ⟨("_law_words", none), "_law_words", "_law_words", defArgs (top 18), defBody (top 18), defScope (top 18), [], []⟩
theorem sc__law_words : FnScope N__law_words ["_law_cell", "_law_many"] (defScope (top 18)) := ⟨rfl, rfl, rfl, by decide +kernel, rfl, by decide +kernel, by decide +kernel⟩
theorem ck__law_words : chkSs ⟨N__law_words, defScope (top 18), true⟩ ir__law_words (defBody (top 18)) = true := by decide +kernel
theorem ok__law_words {P : Program} {w : World} {K : PySem.W.Frag} {mg : Str → Option Value} {base : Heap} {f : Addr} {fd : FuncData} (hg : mg "_law_words" = some (.ref f)) (fr : ∀ x ∈ freeNames, mg x = none) 
    (F : FunD K "_law_words" "_law_words" (defArgs (top 18)) (defBody (top 18)) (defScope (top 18)) [] [] f fd) : FnOk P w K mg base (L2N.CX P w) 1 f fd ["_law_cell", "_law_many"] (spM K mg 2 m__law_words) ∧ CallOk P w K mg base 1 "_law_words" 2 m__law_words := by
  have o : FnOk P w K mg base (L2N.CX P w) 1 f fd ["_law_cell", "_law_many"] (spM K mg 2 m__law_words) := fn_ok (k := 0) F sc__law_words ck__law_words (by simp only [ir__law_words, GoodSs, GoodS, MP.Good, Goods, GoodIt, GoodO, Es.len, Nat.reduceAdd, Nat.zero_add, and_self, and_true, true_and]) fr fun ds _ => Le.refl _
  exact ⟨o, call_ok hg F o (F.bindsN fun _ _ _ _ _ _ us hl => match us, hl with | [_, _], _ => rfl)⟩
abbrev d__law_made : He.DefD := ⟨("_law_made", none), "_law_made", "_law_made", defArgs (top 19), defBody (top 19), defScope (top 19), [], []⟩
theorem sc__law_made : FnScope N__law_made ["_law_powers"] (defScope (top 19)) := ⟨rfl, rfl, rfl, by decide +kernel, rfl, by decide +kernel, by decide +kernel⟩
theorem ck__law_made : chkSs ⟨N__law_made, defScope (top 19), true⟩ ir__law_made (defBody (top 19)) = true := by decide +kernel
theorem ok__law_made {P : Program} {w : World} {K : PySem.W.Frag} {mg : Str → Option Value} {base : Heap} {f : Addr} {fd : FuncData} (hg : mg "_law_made" = some (.ref f)) (fr : ∀ x ∈ freeNames, mg x = none) 
    (F : FunD K "_law_made" "_law_made" (defArgs (top 19)) (defBody (top 19)) (defScope (top 19)) [] [] f fd) : FnOk P w K mg base (L2N.CX P w) 1 f fd ["_law_powers"] (spM K mg 1 m__law_made) ∧ CallOk P w K mg base 1 "_law_made" 1 m__law_made := by
  have o : FnOk P w K mg base (L2N.CX P w) 1 f fd ["_law_powers"] (spM K mg 1 m__law_made) := fn_ok (k := 0) F sc__law_made ck__law_made (by simp only [ir__law_made, GoodSs, GoodS, MP.Good, Goods, GoodIt, GoodO, Es.len, Nat.reduceAdd, Nat.zero_add, and_self, and_true, true_and]) fr fun ds _ => Le.refl _
  exact ⟨o, call_ok hg F o (F.bindsN fun _ _ _ _ _ _ us hl => match us, hl with | [_], _ => rfl)⟩
abbrev d__law_whole : He.DefD := ⟨("_law_whole", none), "_law_whole", "_law_whole", defArgs (top 20), defBody (top 20), defScope (top 20), [], []⟩
theorem sc__law_whole : FnScope N__law_whole ["_law_found"] (defScope (top 20)) := ⟨rfl, rfl, rfl, by decide +kernel, rfl, by decide +kernel, by decide +kernel⟩
theorem ck__law_whole : chkSs ⟨N__law_whole, defScope (top 20), true⟩ ir__law_whole (defBody (top 20)) = true := by decide +kernel
theorem ok__law_whole {P : Program} {w : World} {K : PySem.W.Frag} {mg : Str → Option Value} {base : Heap} {f : Addr} {fd : FuncData} (hg : mg "_law_whole" = some (.ref f)) (fr : ∀ x ∈ freeNames, mg x = none) 
    (F : FunD K "_law_whole" "_law_whole" (defArgs (top 20)) (defBody (top 20)) (defScope (top 20)) [] [] f fd) : FnOk P w K mg base (L2N.CX P w) 1 f fd ["_law_found"] (spM K mg 1 m__law_whole) ∧ CallOk P w K mg base 1 "_law_whole" 1 m__law_whole := by
  have o : FnOk P w K mg base (L2N.CX P w) 1 f fd ["_law_found"] (spM K mg 1 m__law_whole) := fn_ok (k := 0) F sc__law_whole ck__law_whole (by simp only [ir__law_whole, GoodSs, GoodS, MP.Good, Goods, GoodIt, GoodO, Es.len, Nat.reduceAdd, Nat.zero_add, and_self, and_true, true_and]) fr fun ds _ => Le.refl _
  exact ⟨o, call_ok hg F o (F.bindsN fun _ _ _ _ _ _ us hl => match us, hl with | [_], _ => rfl)⟩
abbrev d__law_is_measure : He.DefD := ⟨("_law_is_measure", none), "_law_is_measure", "_law_is_measure", defArgs (top 21), defBody (top 21), defScope (top 21), [], []⟩
theorem sc__law_is_measure : FnScope N__law_is_measure ["_law_found"] (defScope (top 21)) := ⟨rfl, rfl, rfl, by decide +kernel, rfl, by decide +kernel, by decide +kernel⟩
theorem ck__law_is_measure : chkSs ⟨N__law_is_measure, defScope (top 21), true⟩ ir__law_is_measure (defBody (top 21)) = true := by decide +kernel
theorem ok__law_is_measure {P : Program} {w : World} {K : PySem.W.Frag} {mg : Str → Option Value} {base : Heap} {f : Addr} {fd : FuncData} (hg : mg "_law_is_measure" = some (.ref f)) (fr : ∀ x ∈ freeNames, mg x = none) (c__law_whole : CallOk P w K mg base 1 "_law_whole" 1 m__law_whole)
    (F : FunD K "_law_is_measure" "_law_is_measure" (defArgs (top 21)) (defBody (top 21)) (defScope (top 21)) [] [] f fd) : FnOk P w K mg base (L2N.CX P w) 2 f fd ["_law_found"] (spM K mg 1 m__law_is_measure) ∧ CallOk P w K mg base 2 "_law_is_measure" 1 m__law_is_measure := by
  have c__law_whole := c__law_whole.mono (k := 1) (by decide)
  have o : FnOk P w K mg base (L2N.CX P w) 2 f fd ["_law_found"] (spM K mg 1 m__law_is_measure) := fn_ok (k := 1) F sc__law_is_measure ck__law_is_measure (by simp only [ir__law_is_measure, GoodSs, GoodS, MP.Good, Goods, GoodIt, GoodO, Es.len, Nat.reduceAdd, Nat.zero_add, and_self, and_true, true_and, c__law_whole]) fr fun ds _ => Le.refl _
  exact ⟨o, call_ok hg F o (F.bindsN fun _ _ _ _ _ _ us hl => match us, hl with | [_], _ => rfl)⟩
abbrev d__law_small : He.DefD := ⟨("_law_small", none), "_law_small", "_law_small", defArgs (top 22), defBody (top 22), defScope (top 22), [], []⟩
theorem sc__law_small : FnScope N__law_small ["_law_cell", "_law_letters"] (defScope (top 22)) := ⟨rfl, rfl, rfl, by decide +kernel, rfl, by decide +kernel, by decide +kernel⟩
theorem ck__law_small : chkSs ⟨N__law_small, defScope (top 22), true⟩ ir__law_small (defBody (top 22)) = true := by decide +kernel
theorem ok__law_small {P : Program} {w : World} {K : PySem.W.Frag} {mg : Str → Option Value} {base : Heap} {f : Addr} {fd : FuncData} (hg : mg "_law_small" = some (.ref f)) (fr : ∀ x ∈ freeNames, mg x = none) (c__law_mix : CallOk P w K mg base 1 "_law_mix" 2 m__law_mix) (c__law_made : CallOk P w K mg base 1 "_law_made" 1 m__law_made)
    (F : FunD K "_law_small" "_law_small" (defArgs (top 22)) (defBody (top 22)) (defScope (top 22)) [] [] f fd) : FnOk P w K mg base (L2N.CX P w) 2 f fd ["_law_cell", "_law_letters"] (spM K mg 2 m__law_small) ∧ CallOk P w K mg base 2 "_law_small" 2 m__law_small := by
  have c__law_mix := c__law_mix.mono (k := 1) (by decide)
  have c__law_made := c__law_made.mono (k := 1) (by decide)
  have o : FnOk P w K mg base (L2N.CX P w) 2 f fd ["_law_cell", "_law_letters"] (spM K mg 2 m__law_small) := fn_ok (k := 1) F sc__law_small ck__law_small (by simp only [ir__law_small, GoodSs, GoodS, MP.Good, Goods, GoodIt, GoodO, Es.len, Nat.reduceAdd, Nat.zero_add, and_self, and_true, true_and, c__law_mix, c__law_made]) fr fun ds _ => Le.refl _
  exact ⟨o, call_ok hg F o (F.bindsN fun _ _ _ _ _ _ us hl => match us, hl with | [_, _], _ => rfl)⟩
abbrev d__law_shared : He.DefD := ⟨("_law_shared", none), "_law_shared", "_law_shared", defArgs (top 23), defBody (top 23), defScope (top 23), [], []⟩
theorem sc__law_shared : FnScope N__law_shared ["_law_one", "_law_other"] (defScope (top 23)) := ⟨rfl, rfl, rfl, by decide +kernel, rfl, by decide +kernel, by decide +kernel⟩
theorem ck__law_shared : chkSs ⟨N__law_shared, defScope (top 23), true⟩ ir__law_shared (defBody (top 23)) = true := by decide +kernel
theorem ok__law_shared {P : Program} {w : World} {K : PySem.W.Frag} {mg : Str → Option Value} {base : Heap} {f : Addr} {fd : FuncData} (hg : mg "_law_shared" = some (.ref f)) (fr : ∀ x ∈ freeNames, mg x = none) 
    (F : FunD K "_law_shared" "_law_shared" (defArgs (top 23)) (defBody (top 23)) (defScope (top 23)) [] [] f fd) : FnOk P w K mg base (L2N.CX P w) 1 f fd ["_law_one", "_law_other"] (spM K mg 2 m__law_shared) ∧ CallOk P w K mg base 1 "_law_shared" 2 m__law_shared := by
  have o : FnOk P w K mg base (L2N.CX P w) 1 f fd ["_law_one", "_law_other"] (spM K mg 2 m__law_shared) := fn_ok (k := 0) F sc__law_shared ck__law_shared (by simp only [ir__law_shared, GoodSs, GoodS, MP.Good, Goods, GoodIt, GoodO, Es.len, Nat.reduceAdd, Nat.zero_add, and_self, and_true, true_and]) fr fun ds _ => Le.refl _
  exact ⟨o, call_ok hg F o (F.bindsN fun _ _ _ _ _ _ us hl => match us, hl with | [_, _], _ => rfl)⟩
abbrev d__law_lowest : He.DefD := ⟨("_law_lowest", none), "_law_lowest", "_law_lowest", defArgs (top 24), defBody (top 24), defScope (top 24), [], []⟩
theorem sc__law_lowest : FnScope N__law_lowest ["_law_above", "_law_below"] (defScope (top 24)) := ⟨rfl, rfl, rfl, by decide +kernel, rfl, by decide +kernel, by decide +kernel⟩
theorem ck__law_lowest : chkSs ⟨N__law_lowest, defScope (top 24), true⟩ ir__law_lowest (defBody (top 24)) = true := by decide +kernel
theorem ok__law_lowest {P : Program} {w : World} {K : PySem.W.Frag} {mg : Str → Option Value} {base : Heap} {f : Addr} {fd : FuncData} (hg : mg "_law_lowest" = some (.ref f)) (fr : ∀ x ∈ freeNames, mg x = none) (c__law_shared : CallOk P w K mg base 1 "_law_shared" 2 m__law_shared)
    (F : FunD K "_law_lowest" "_law_lowest" (defArgs (top 24)) (defBody (top 24)) (defScope (top 24)) [] [] f fd) : FnOk P w K mg base (L2N.CX P w) 2 f fd ["_law_above", "_law_below"] (spM K mg 2 m__law_lowest) ∧ CallOk P w K mg base 2 "_law_lowest" 2 m__law_lowest := by
  have c__law_shared := c__law_shared.mono (k := 1) (by decide)
  have o : FnOk P w K mg base (L2N.CX P w) 2 f fd ["_law_above", "_law_below"] (spM K mg 2 m__law_lowest) := fn_ok (k := 1) F sc__law_lowest ck__law_lowest (by simp only [ir__law_lowest, GoodSs, GoodS, MP.Good, Goods, GoodIt, GoodO, Es.len, Nat.reduceAdd, Nat.zero_add, and_self, and_true, true_and, c__law_shared]) fr fun ds _ => Le.refl _
  exact ⟨o, call_ok hg F o (F.bindsN fun _ _ _ _ _ _ us hl => match us, hl with | [_, _], _ => rfl)⟩
abbrev d__law_number : He.DefD := ⟨("_law_number", none), "_law_number", "_law_number", defArgs (top 25), defBody (top 25), defScope (top 25), [], []⟩
theorem sc__law_number : FnScope N__law_number ["_law_cell"] (defScope (top 25)) := ⟨rfl, rfl, rfl, by decide +kernel, rfl, by decide +kernel, by decide +kernel⟩
theorem ck__law_number : chkSs ⟨N__law_number, defScope (top 25), true⟩ ir__law_number (defBody (top 25)) = true := by decide +kernel
theorem ok__law_number {P : Program} {w : World} {K : PySem.W.Frag} {mg : Str → Option Value} {base : Heap} {f : Addr} {fd : FuncData} (hg : mg "_law_number" = some (.ref f)) (fr : ∀ x ∈ freeNames, mg x = none) (c__law_lowest : CallOk P w K mg base 2 "_law_lowest" 2 m__law_lowest)
    (F : FunD K "_law_number" "_law_number" (defArgs (top 25)) (defBody (top 25)) (defScope (top 25)) [] [] f fd) : FnOk P w K mg base (L2N.CX P w) 3 f fd ["_law_cell"] (spM K mg 1 m__law_number) ∧ CallOk P w K mg base 3 "_law_number" 1 m__law_number := by
  have c__law_lowest := c__law_lowest.mono (k := 2) (by decide)
  have o : FnOk P w K mg base (L2N.CX P w) 3 f fd ["_law_cell"] (spM K mg 1 m__law_number) := fn_ok (k := 2) F sc__law_number ck__law_number (by simp only [ir__law_number, GoodSs, GoodS, MP.Good, Goods, GoodIt, GoodO, Es.len, Nat.reduceAdd, Nat.zero_add, and_self, and_true, true_and, c__law_lowest]) fr fun ds _ => Le.refl _
  exact ⟨o, call_ok hg F o (F.bindsN fun _ _ _ _ _ _ us hl => match us, hl with | [_], _ => rfl)⟩
abbrev d__law_leaf : He.DefD := ⟨("_law_leaf", none), "_law_leaf", "_law_leaf", defArgs (top 26), defBody (top 26), defScope (top 26), [], []⟩
theorem sc__law_leaf : FnScope N__law_leaf ["_law_cell", "_law_words_here", "_law_bases"] (defScope (top 26)) := ⟨rfl, rfl, rfl, by decide +kernel, rfl, by decide +kernel, by decide +kernel⟩
theorem ck__law_leaf : chkSs ⟨N__law_leaf, defScope (top 26), true⟩ ir__law_leaf (defBody (top 26)) = true := by decide +kernel
theorem ok__law_leaf {P : Program} {w : World} {K : PySem.W.Frag} {mg : Str → Option Value} {base : Heap} {f : Addr} {fd : FuncData} (hg : mg "_law_leaf" = some (.ref f)) (fr : ∀ x ∈ freeNames, mg x = none) (c__law_small : CallOk P w K mg base 2 "_law_small" 2 m__law_small) (c__law_number : CallOk P w K mg base 3 "_law_number" 1 m__law_number) (c__law_mix : CallOk P w K mg base 1 "_law_mix" 2 m__law_mix)
    (F : FunD K "_law_leaf" "_law_leaf" (defArgs (top 26)) (defBody (top 26)) (defScope (top 26)) [] [] f fd) : FnOk P w K mg base (L2N.CX P w) 4 f fd ["_law_cell", "_law_words_here", "_law_bases"] (spM K mg 3 m__law_leaf) ∧ CallOk P w K mg base 4 "_law_leaf" 3 m__law_leaf := by
  have c__law_small := c__law_small.mono (k := 3) (by decide)
  have c__law_number := c__law_number.mono (k := 3) (by decide)
  have c__law_mix := c__law_mix.mono (k := 3) (by decide)
  have o : FnOk P w K mg base (L2N.CX P w) 4 f fd ["_law_cell", "_law_words_here", "_law_bases"] (spM K mg 3 m__law_leaf) := fn_ok (k := 3) F sc__law_leaf ck__law_leaf (by simp only [ir__law_leaf, GoodSs, GoodS, MP.Good, Goods, GoodIt, GoodO, Es.len, Nat.reduceAdd, Nat.zero_add, and_self, and_true, true_and, c__law_small, c__law_number, c__law_mix]) fr fun ds _ => Le.refl _
  exact ⟨o, call_ok hg F o (F.bindsN fun _ _ _ _ _ _ us hl => match us, hl with | [_, _, _], _ => rfl)⟩
abbrev d__law_tree : He.DefD := ⟨("_law_tree", none), "_law_tree", "_law_tree", defArgs (top 27), defBody (top 27), defScope (top 27), [], []⟩
theorem sc__law_tree : FnScope N__law_tree ["_law_cell", "_law_depth", "_law_names", "_law_powers"] (defScope (top 27)) := ⟨rfl, rfl, rfl, by decide +kernel, rfl, by decide +kernel, by decide +kernel⟩
theorem ck__law_tree (self_ : M) : chkSs ⟨N__law_tree, defScope (top 27), true⟩ (ir__law_tree self_) (defBody (top 27)) = true := by kernel_rfl
theorem ok__law_tree {P : Program} {w : World} {K : PySem.W.Frag} {mg : Str → Option Value} {base : Heap} {f : Addr} {fd : FuncData} (hg : mg "_law_tree" = some (.ref f)) (fr : ∀ x ∈ freeNames, mg x = none) (c__law_leaf : CallOk P w K mg base 4 "_law_leaf" 3 m__law_leaf) (c__law_mix : CallOk P w K mg base 1 "_law_mix" 2 m__law_mix)
    (F : FunD K "_law_tree" "_law_tree" (defArgs (top 27)) (defBody (top 27)) (defScope (top 27)) [] [] f fd) : ∀ k : Nat, FnOk P w K mg base (L2N.CX P w) (4 + k) f fd ["_law_cell", "_law_depth", "_law_names", "_law_powers"] (spM K mg 4 (m__law_tree k)) ∧ CallOk P w K mg base (4 + k) "_law_tree" 4 (m__law_tree k) := by
  intro k
  induction k with
  | zero =>
    have z : FnOk P w K mg base (L2N.CX P w) (4 + 0) f fd ["_law_cell", "_law_depth", "_law_names", "_law_powers"] (spM K mg 4 (m__law_tree 0)) := fn_stuck
    exact ⟨z, call_ok hg F z (F.bindsN fun _ _ _ _ _ _ us hl => match us, hl with | [_, _, _, _], _ => rfl)⟩
  | succ k ih =>
    have ih := ih.2
    have c__law_leaf := c__law_leaf.mono (k := 4 + k) (by omega)
    have c__law_mix := c__law_mix.mono (k := 4 + k) (by omega)
    have o : FnOk P w K mg base (L2N.CX P w) (4 + k + 1) f fd ["_law_cell", "_law_depth", "_law_names", "_law_powers"] (spM K mg 4 (m__law_tree (k + 1))) := fn_ok (k := 4 + k) F sc__law_tree (ck__law_tree _) (by simp only [ir__law_tree, GoodSs, GoodS, MP.Good, Goods, GoodIt, GoodO, Es.len, Nat.reduceAdd, Nat.zero_add, and_self, and_true, true_and, ih, c__law_leaf, c__law_mix]) fr fun ds _ => Le.refl _
    exact ⟨o, call_ok hg F o (F.bindsN fun _ _ _ _ _ _ us hl => match us, hl with | [_, _, _, _], _ => rfl)⟩
abbrev d__law_parts : He.DefD := ⟨("_law_parts", none), "_law_parts", "_law_parts", defArgs (top 28), defBody (top 28), defScope (top 28), [], []⟩
theorem sc__law_parts : FnScope N__law_parts ["_law_tree_here"] (defScope (top 28)) := ⟨rfl, rfl, rfl, by decide +kernel, rfl, by decide +kernel, by decide +kernel⟩
theorem ck__law_parts : chkSs ⟨N__law_parts, defScope (top 28), true⟩ ir__law_parts (defBody (top 28)) = true := by decide +kernel
theorem ok__law_parts {P : Program} {w : World} {K : PySem.W.Frag} {mg : Str → Option Value} {base : Heap} {f : Addr} {fd : FuncData} (hg : mg "_law_parts" = some (.ref f)) (fr : ∀ x ∈ freeNames, mg x = none) 
    (F : FunD K "_law_parts" "_law_parts" (defArgs (top 28)) (defBody (top 28)) (defScope (top 28)) [] [] f fd) : FnOk P w K mg base (L2N.CX P w) 1 f fd ["_law_tree_here"] (spM K mg 1 m__law_parts) ∧ CallOk P w K mg base 1 "_law_parts" 1 m__law_parts := by
  have o : FnOk P w K mg base (L2N.CX P w) 1 f fd ["_law_tree_here"] (spM K mg 1 m__law_parts) := fn_ok (k := 0) F sc__law_parts ck__law_parts (by simp only [ir__law_parts, GoodSs, GoodS, MP.Good, Goods, GoodIt, GoodO, Es.len, Nat.reduceAdd, Nat.zero_add, and_self, and_true, true_and]) fr fun ds _ => Le.refl _
  exact ⟨o, call_ok hg F o (F.bindsN fun _ _ _ _ _ _ us hl => match us, hl with | [_], _ => rfl)⟩
abbrev d__law_noughts : He.DefD := ⟨("_law_noughts", none), "_law_noughts", "_law_noughts", defArgs (top 29), defBody (top 29), defScope (top 29), [], []⟩
theorem sc__law_noughts : FnScope N__law_noughts ["_law_tree_here"] (defScope (top 29)) := ⟨rfl, rfl, rfl, by decide +kernel, rfl, by decide +kernel, by decide +kernel⟩
theorem ck__law_noughts (self_ : M) : chkSs ⟨N__law_noughts, defScope (top 29), true⟩ (ir__law_noughts self_) (defBody (top 29)) = true := by kernel_rfl
theorem ok__law_noughts {P : Program} {w : World} {K : PySem.W.Frag} {mg : Str → Option Value} {base : Heap} {f : Addr} {fd : FuncData} (hg : mg "_law_noughts" = some (.ref f)) (fr : ∀ x ∈ freeNames, mg x = none) (c__law_parts : CallOk P w K mg base 1 "_law_parts" 1 m__law_parts)
    (F : FunD K "_law_noughts" "_law_noughts" (defArgs (top 29)) (defBody (top 29)) (defScope (top 29)) [] [] f fd) : ∀ k : Nat, FnOk P w K mg base (L2N.CX P w) (1 + k) f fd ["_law_tree_here"] (spM K mg 1 (m__law_noughts k)) ∧ CallOk P w K mg base (1 + k) "_law_noughts" 1 (m__law_noughts k) := by
  intro k
  induction k with
  | zero =>
    have z : FnOk P w K mg base (L2N.CX P w) (1 + 0) f fd ["_law_tree_here"] (spM K mg 1 (m__law_noughts 0)) := fn_stuck
    exact ⟨z, call_ok hg F z (F.bindsN fun _ _ _ _ _ _ us hl => match us, hl with | [_], _ => rfl)⟩
  | succ k ih =>
    have ih := ih.2
    have c__law_parts := c__law_parts.mono (k := 1 + k) (by omega)
    have o : FnOk P w K mg base (L2N.CX P w) (1 + k + 1) f fd ["_law_tree_here"] (spM K mg 1 (m__law_noughts (k + 1))) := fn_ok (k := 1 + k) F sc__law_noughts (ck__law_noughts _) (by simp only [ir__law_noughts, GoodSs, GoodS, MP.Good, Goods, GoodIt, GoodO, Es.len, Nat.reduceAdd, Nat.zero_add, and_self, and_true, true_and, ih, c__law_parts]) fr fun ds _ => Le.refl _
    exact ⟨o, call_ok hg F o (F.bindsN fun _ _ _ _ _ _ us hl => match us, hl with | [_], _ => rfl)⟩
abbrev d__law_times : He.DefD := ⟨("_law_times", none), "_law_times", "_law_times", defArgs (top 30), defBody (top 30), defScope (top 30), [], []⟩
theorem sc__law_times : FnScope N__law_times ["_law_one", "_law_other", "_law_by"] (defScope (top 30)) := ⟨rfl, rfl, rfl, by decide +kernel, rfl, by decide +kernel, by decide +kernel⟩
theorem ck__law_times : chkSs ⟨N__law_times, defScope (top 30), true⟩ ir__law_times (defBody (top 30)) = true := by decide +kernel
theorem ok__law_times {P : Program} {w : World} {K : PySem.W.Frag} {mg : Str → Option Value} {base : Heap} {f : Addr} {fd : FuncData} (hg : mg "_law_times" = some (.ref f)) (fr : ∀ x ∈ freeNames, mg x = none) (c__law_made : CallOk P w K mg base 1 "_law_made" 1 m__law_made)
    (F : FunD K "_law_times" "_law_times" (defArgs (top 30)) (defBody (top 30)) (defScope (top 30)) [] [] f fd) : FnOk P w K mg base (L2N.CX P w) 2 f fd ["_law_one", "_law_other", "_law_by"] (spM K mg 3 m__law_times) ∧ CallOk P w K mg base 2 "_law_times" 3 m__law_times := by
  have c__law_made := c__law_made.mono (k := 1) (by decide)
  have o : FnOk P w K mg base (L2N.CX P w) 2 f fd ["_law_one", "_law_other", "_law_by"] (spM K mg 3 m__law_times) := fn_ok (k := 1) F sc__law_times ck__law_times (by simp only [ir__law_times, GoodSs, GoodS, MP.Good, Goods, GoodIt, GoodO, Es.len, Nat.reduceAdd, Nat.zero_add, and_self, and_true, true_and, c__law_made]) fr fun ds _ => Le.refl _
  exact ⟨o, call_ok hg F o (F.bindsN fun _ _ _ _ _ _ us hl => match us, hl with | [_, _, _], _ => rfl)⟩
abbrev d__law_walk : He.DefD := ⟨("_law_walk", none), "_law_walk", "_law_walk", defArgs (top 31), defBody (top 31), defScope (top 31), [], []⟩
theorem sc__law_walk : FnScope N__law_walk ["_law_tree_here", "_law_names", "_law_given"] (defScope (top 31)) := ⟨rfl, rfl, rfl, by decide +kernel, rfl, by decide +kernel, by decide +kernel⟩
theorem ck__law_walk (self_ : M) : chkSs ⟨N__law_walk, defScope (top 31), true⟩ (ir__law_walk self_) (defBody (top 31)) = true := by kernel_rfl
theorem ok__law_walk {P : Program} {w : World} {K : PySem.W.Frag} {mg : Str → Option Value} {base : Heap} {f : Addr} {fd : FuncData} (hg : mg "_law_walk" = some (.ref f)) (fr : ∀ x ∈ freeNames, mg x = none) (c__law_parts : CallOk P w K mg base 1 "_law_parts" 1 m__law_parts) (c__law_noughts : CallOk P w K mg base 21 "_law_noughts" 1 (m__law_noughts 20)) (c__law_times : CallOk P w K mg base 2 "_law_times" 3 m__law_times)
    (F : FunD K "_law_walk" "_law_walk" (defArgs (top 31)) (defBody (top 31)) (defScope (top 31)) [] [] f fd) : ∀ k : Nat, FnOk P w K mg base (L2N.CX P w) (21 + k) f fd ["_law_tree_here", "_law_names", "_law_given"] (spM K mg 3 (m__law_walk k)) ∧ CallOk P w K mg base (21 + k) "_law_walk" 3 (m__law_walk k) := by
  intro k
  induction k with
  | zero =>
    have z : FnOk P w K mg base (L2N.CX P w) (21 + 0) f fd ["_law_tree_here", "_law_names", "_law_given"] (spM K mg 3 (m__law_walk 0)) := fn_stuck
    exact ⟨z, call_ok hg F z (F.bindsN fun _ _ _ _ _ _ us hl => match us, hl with | [_, _, _], _ => rfl)⟩
  | succ k ih =>
    have ih := ih.2
    have c__law_parts := c__law_parts.mono (k := 21 + k) (by omega)
    have c__law_noughts := c__law_noughts.mono (k := 21 + k) (by omega)
    have c__law_times := c__law_times.mono (k := 21 + k) (by omega)
    have o : FnOk P w K mg base (L2N.CX P w) (21 + k + 1) f fd ["_law_tree_here", "_law_names", "_law_given"] (spM K mg 3 (m__law_walk (k + 1))) := fn_ok (k := 21 + k) F sc__law_walk (ck__law_walk _) (by simp only [ir__law_walk, GoodSs, GoodS, MP.Good, Goods, GoodIt, GoodO, Es.len, Nat.reduceAdd, Nat.zero_add, and_self, and_true, true_and, ih, c__law_parts, c__law_noughts, c__law_times]) fr fun ds _ => Le.refl _
    exact ⟨o, call_ok hg F o (F.bindsN fun _ _ _ _ _ _ us hl => match us, hl with | [_, _, _], _ => rfl)⟩
abbrev d__law_inputs : He.DefD := ⟨("_law_inputs", none), "_law_inputs", "_law_inputs", defArgs (top 32), defBody (top 32), defScope (top 32), [], []⟩
theorem sc__law_inputs : FnScope N__law_inputs ["_law_tree_here"] (defScope (top 32)) := ⟨rfl, rfl, rfl, by decide +kernel, rfl, by decide +kernel, by decide +kernel⟩
theorem ck__law_inputs (self_ : M) : chkSs ⟨N__law_inputs, defScope (top 32), true⟩ (ir__law_inputs self_) (defBody (top 32)) = true := by kernel_rfl
theorem ok__law_inputs {P : Program} {w : World} {K : PySem.W.Frag} {mg : Str → Option Value} {base : Heap} {f : Addr} {fd : FuncData} (hg : mg "_law_inputs" = some (.ref f)) (fr : ∀ x ∈ freeNames, mg x = none) (c__law_parts : CallOk P w K mg base 1 "_law_parts" 1 m__law_parts)
    (F : FunD K "_law_inputs" "_law_inputs" (defArgs (top 32)) (defBody (top 32)) (defScope (top 32)) [] [] f fd) : ∀ k : Nat, FnOk P w K mg base (L2N.CX P w) (1 + k) f fd ["_law_tree_here"] (spM K mg 1 (m__law_inputs k)) ∧ CallOk P w K mg base (1 + k) "_law_inputs" 1 (m__law_inputs k) := by
  intro k
  induction k with
  | zero =>
    have z : FnOk P w K mg base (L2N.CX P w) (1 + 0) f fd ["_law_tree_here"] (spM K mg 1 (m__law_inputs 0)) := fn_stuck
    exact ⟨z, call_ok hg F z (F.bindsN fun _ _ _ _ _ _ us hl => match us, hl with | [_], _ => rfl)⟩
  | succ k ih =>
    have ih := ih.2
    have c__law_parts := c__law_parts.mono (k := 1 + k) (by omega)
    have o : FnOk P w K mg base (L2N.CX P w) (1 + k + 1) f fd ["_law_tree_here"] (spM K mg 1 (m__law_inputs (k + 1))) := fn_ok (k := 1 + k) F sc__law_inputs (ck__law_inputs _) (by simp only [ir__law_inputs, GoodSs, GoodS, MP.Good, Goods, GoodIt, GoodO, Es.len, Nat.reduceAdd, Nat.zero_add, and_self, and_true, true_and, ih, c__law_parts]) fr fun ds _ => Le.refl _
    exact ⟨o, call_ok hg F o (F.bindsN fun _ _ _ _ _ _ us hl => match us, hl with | [_], _ => rfl)⟩
abbrev d_law : He.DefD := ⟨("law", none), "law", "law", defArgs (top 33), defBody (top 33), defScope (top 33), [], []⟩
theorem sc_law : FnScope N_law ["_law_script"] (defScope (top 33)) := ⟨rfl, rfl, rfl, by decide +kernel, rfl, by decide +kernel, by decide +kernel⟩
theorem ck_law : chkSs ⟨N_law, defScope (top 33), true⟩ ir_law (defBody (top 33)) = true := by decide +kernel
theorem ok_law {P : Program} {w : World} {K : PySem.W.Frag} {mg : Str → Option Value} {base : Heap} {f : Addr} {fd : FuncData} (hg : mg "law" = some (.ref f)) (fr : ∀ x ∈ freeNames, mg x = none) (c__law_words : CallOk P w K mg base 1 "_law_words" 2 m__law_words) (c__law_cell_at : CallOk P w K mg base 1 "_law_cell_at" 2 m__law_cell_at) (c__law_tree : CallOk P w K mg base 24 "_law_tree" 4 (m__law_tree 20)) (c__law_leaf : CallOk P w K mg base 4 "_law_leaf" 3 m__law_leaf) (c__law_inputs : CallOk P w K mg base 21 "_law_inputs" 1 (m__law_inputs 20)) (c__law_walk : CallOk P w K mg base 41 "_law_walk" 3 (m__law_walk 20)) (c__law_noughts : CallOk P w K mg base 21 "_law_noughts" 1 (m__law_noughts 20)) (c_alike : CallOk P w K mg base 43 "alike" 1 m_alike) (c__law_is_measure : CallOk P w K mg base 2 "_law_is_measure" 1 m__law_is_measure) (c_measure_of : CallOk P w K mg base 43 "measure_of" 1 m_measure_of)
    (F : FunD K "law" "law" (defArgs (top 33)) (defBody (top 33)) (defScope (top 33)) [] [] f fd) : FnOk P w K mg base (L2N.CX P w) 44 f fd ["_law_script"] (spM K mg 1 m_law) ∧ CallOk P w K mg base 44 "law" 1 m_law := by
  have c__law_words := c__law_words.mono (k := 43) (by decide)
  have c__law_cell_at := c__law_cell_at.mono (k := 43) (by decide)
  have c__law_tree := c__law_tree.mono (k := 43) (by decide)
  have c__law_leaf := c__law_leaf.mono (k := 43) (by decide)
  have c__law_inputs := c__law_inputs.mono (k := 43) (by decide)
  have c__law_walk := c__law_walk.mono (k := 43) (by decide)
  have c__law_noughts := c__law_noughts.mono (k := 43) (by decide)
  have c_alike := c_alike.mono (k := 43) (by decide)
  have c__law_is_measure := c__law_is_measure.mono (k := 43) (by decide)
  have c_measure_of := c_measure_of.mono (k := 43) (by decide)
  have o : FnOk P w K mg base (L2N.CX P w) 44 f fd ["_law_script"] (spM K mg 1 m_law) := fn_ok (k := 43) F sc_law ck_law (by simp only [ir_law, GoodSs, GoodS, MP.Good, Goods, GoodIt, GoodO, Es.len, Nat.reduceAdd, Nat.zero_add, and_self, and_true, true_and, c__law_words, c__law_cell_at, c__law_tree, c__law_leaf, c__law_inputs, c__law_walk, c__law_noughts, c_alike, c__law_is_measure, c_measure_of]) fr fun ds _ => Le.refl _
  exact ⟨o, call_ok hg F o (F.bindsN fun _ _ _ _ _ _ us hl => match us, hl with | [_], _ => rfl)⟩
def fns : List He.DefD := [d_made, d_times, d_power, d_over, d_parts_of, d_all_inputs, d_inputs, d_noughts, d_walked, d_lettered, d_measure_of, d_alike, d__law_cell_at, d__law_mix, d__law_words, d__law_made, d__law_whole, d__law_is_measure, d__law_small, d__law_shared, d__law_lowest, d__law_number, d__law_leaf, d__law_tree, d__law_parts, d__law_noughts, d__law_times, d__law_walk, d__law_inputs, d_law]
def fas : List He.Fa := [.glo "made", .glo "times", .glo "power", .glo "over", .glo "parts_of", .glo "all_inputs", .glo "inputs", .glo "noughts", .glo "walked", .glo "lettered", .glo "measure_of", .glo "alike", .glo "_law_cell_at", .glo "_law_mix", .glo "_law_words", .glo "_law_made", .glo "_law_whole", .glo "_law_is_measure", .glo "_law_small", .glo "_law_shared", .glo "_law_lowest", .glo "_law_number", .glo "_law_leaf", .glo "_law_tree", .glo "_law_parts", .glo "_law_noughts", .glo "_law_times", .glo "_law_walk", .glo "_law_inputs", .glo "law", .free "len", .free "abs", .free "min", .free "max", .free "sum", .free "any", .free "all", .free "sorted", .free "list", .free "tuple", .free "dict", .free "str", .free "int", .free "bool", .free "isinstance", .free "range", .free "set"]
abbrev RowK : PySem.W.OpenRow := PySem.W.OpenLaw.row PySem.Challenge.rw_measurekind_k07_alike_told
abbrev hk : PySem.W.Hook := He.hookD 4 fas fns
def ob (s : PySem.W.SharedT) : He.AlD := He.obsDG 4 fas fns (HandSHeadRun.getT s)
theorem ob_eq (s : PySem.W.SharedT) : ob s = hk.obs s.abs := He.obsDG_eq (HandSHeadRun.getT_eq s)
def loose : List Str := ["made", "times", "power", "over", "parts_of", "all_inputs", "inputs", "noughts", "walked", "lettered", "measure_of", "alike", "_law_cell_at", "_law_mix", "_law_words", "_law_made", "_law_whole", "_law_is_measure", "_law_small", "_law_shared", "_law_lowest", "_law_number", "_law_leaf", "_law_tree", "_law_parts", "_law_noughts", "_law_times", "_law_walk", "_law_inputs"]
theorem run (w : World) : HandSHeadRun.RunEq RowK (PySem.W.view RowK.prog [33]) hk ob 20000 loose w := by
  intro os
  kernel_rfl
theorem facts {P : Program} {w : World} {K : PySem.W.Frag} {h : Heap} {mg : Str → Option Value} {f : Addr} (X : K.In h) (G : h.Ns mainGlobals mg) (hfa : mg ("law" : Str) = some (.ref f)) (c : He.SaysD fas fns K) :
    ∃ fd : FuncData, (∀ (s : Shared) (v : Value), BindsTo s fd ⟨[v], []⟩ [("_law_script", v)]) ∧ ∀ base : Heap, K.In base → base.Ns mainGlobals mg → FnOk P w K mg base (L2N.CX P w) 44 f fd ["_law_script"] (spM K mg 1 m_law) := by
  obtain ⟨fd_made, F_made⟩ := c.def_ 0 (d := d_made) rfl
  have g_made := He.glo_ok X G (c.fact 0 (f := .glo "made") rfl)
  obtain ⟨fd_times, F_times⟩ := c.def_ 1 (d := d_times) rfl
  have g_times := He.glo_ok X G (c.fact 1 (f := .glo "times") rfl)
  obtain ⟨fd_power, F_power⟩ := c.def_ 2 (d := d_power) rfl
  have g_power := He.glo_ok X G (c.fact 2 (f := .glo "power") rfl)
  obtain ⟨fd_over, F_over⟩ := c.def_ 3 (d := d_over) rfl
  have g_over := He.glo_ok X G (c.fact 3 (f := .glo "over") rfl)
  obtain ⟨fd_parts_of, F_parts_of⟩ := c.def_ 4 (d := d_parts_of) rfl
  have g_parts_of := He.glo_ok X G (c.fact 4 (f := .glo "parts_of") rfl)
  obtain ⟨fd_all_inputs, F_all_inputs⟩ := c.def_ 5 (d := d_all_inputs) rfl
  have g_all_inputs := He.glo_ok X G (c.fact 5 (f := .glo "all_inputs") rfl)
  obtain ⟨fd_inputs, F_inputs⟩ := c.def_ 6 (d := d_inputs) rfl
  have g_inputs := He.glo_ok X G (c.fact 6 (f := .glo "inputs") rfl)
  obtain ⟨fd_noughts, F_noughts⟩ := c.def_ 7 (d := d_noughts) rfl
  have g_noughts := He.glo_ok X G (c.fact 7 (f := .glo "noughts") rfl)
  obtain ⟨fd_walked, F_walked⟩ := c.def_ 8 (d := d_walked) rfl
  have g_walked := He.glo_ok X G (c.fact 8 (f := .glo "walked") rfl)
  obtain ⟨fd_lettered, F_lettered⟩ := c.def_ 9 (d := d_lettered) rfl
  have g_lettered := He.glo_ok X G (c.fact 9 (f := .glo "lettered") rfl)
  obtain ⟨fd_measure_of, F_measure_of⟩ := c.def_ 10 (d := d_measure_of) rfl
  have g_measure_of := He.glo_ok X G (c.fact 10 (f := .glo "measure_of") rfl)
  obtain ⟨fd_alike, F_alike⟩ := c.def_ 11 (d := d_alike) rfl
  have g_alike := He.glo_ok X G (c.fact 11 (f := .glo "alike") rfl)
  obtain ⟨fd__law_cell_at, F__law_cell_at⟩ := c.def_ 12 (d := d__law_cell_at) rfl
  have g__law_cell_at := He.glo_ok X G (c.fact 12 (f := .glo "_law_cell_at") rfl)
  obtain ⟨fd__law_mix, F__law_mix⟩ := c.def_ 13 (d := d__law_mix) rfl
  have g__law_mix := He.glo_ok X G (c.fact 13 (f := .glo "_law_mix") rfl)
  obtain ⟨fd__law_words, F__law_words⟩ := c.def_ 14 (d := d__law_words) rfl
  have g__law_words := He.glo_ok X G (c.fact 14 (f := .glo "_law_words") rfl)
  obtain ⟨fd__law_made, F__law_made⟩ := c.def_ 15 (d := d__law_made) rfl
  have g__law_made := He.glo_ok X G (c.fact 15 (f := .glo "_law_made") rfl)
  obtain ⟨fd__law_whole, F__law_whole⟩ := c.def_ 16 (d := d__law_whole) rfl
  have g__law_whole := He.glo_ok X G (c.fact 16 (f := .glo "_law_whole") rfl)
  obtain ⟨fd__law_is_measure, F__law_is_measure⟩ := c.def_ 17 (d := d__law_is_measure) rfl
  have g__law_is_measure := He.glo_ok X G (c.fact 17 (f := .glo "_law_is_measure") rfl)
  obtain ⟨fd__law_small, F__law_small⟩ := c.def_ 18 (d := d__law_small) rfl
  have g__law_small := He.glo_ok X G (c.fact 18 (f := .glo "_law_small") rfl)
  obtain ⟨fd__law_shared, F__law_shared⟩ := c.def_ 19 (d := d__law_shared) rfl
  have g__law_shared := He.glo_ok X G (c.fact 19 (f := .glo "_law_shared") rfl)
  obtain ⟨fd__law_lowest, F__law_lowest⟩ := c.def_ 20 (d := d__law_lowest) rfl
  have g__law_lowest := He.glo_ok X G (c.fact 20 (f := .glo "_law_lowest") rfl)
  obtain ⟨fd__law_number, F__law_number⟩ := c.def_ 21 (d := d__law_number) rfl
  have g__law_number := He.glo_ok X G (c.fact 21 (f := .glo "_law_number") rfl)
  obtain ⟨fd__law_leaf, F__law_leaf⟩ := c.def_ 22 (d := d__law_leaf) rfl
  have g__law_leaf := He.glo_ok X G (c.fact 22 (f := .glo "_law_leaf") rfl)
  obtain ⟨fd__law_tree, F__law_tree⟩ := c.def_ 23 (d := d__law_tree) rfl
  have g__law_tree := He.glo_ok X G (c.fact 23 (f := .glo "_law_tree") rfl)
  obtain ⟨fd__law_parts, F__law_parts⟩ := c.def_ 24 (d := d__law_parts) rfl
  have g__law_parts := He.glo_ok X G (c.fact 24 (f := .glo "_law_parts") rfl)
  obtain ⟨fd__law_noughts, F__law_noughts⟩ := c.def_ 25 (d := d__law_noughts) rfl
  have g__law_noughts := He.glo_ok X G (c.fact 25 (f := .glo "_law_noughts") rfl)
  obtain ⟨fd__law_times, F__law_times⟩ := c.def_ 26 (d := d__law_times) rfl
  have g__law_times := He.glo_ok X G (c.fact 26 (f := .glo "_law_times") rfl)
  obtain ⟨fd__law_walk, F__law_walk⟩ := c.def_ 27 (d := d__law_walk) rfl
  have g__law_walk := He.glo_ok X G (c.fact 27 (f := .glo "_law_walk") rfl)
  obtain ⟨fd__law_inputs, F__law_inputs⟩ := c.def_ 28 (d := d__law_inputs) rfl
  have g__law_inputs := He.glo_ok X G (c.fact 28 (f := .glo "_law_inputs") rfl)
  obtain ⟨fd_law, F_law⟩ := c.def_ 29 (d := d_law) rfl
  have g_law := He.glo_ok X G (c.fact 29 (f := .glo "law") rfl)
  have f_len : mg "len" = none := He.free_ok X G (c.fact 30 (f := .free "len") rfl)
  have f_abs : mg "abs" = none := He.free_ok X G (c.fact 31 (f := .free "abs") rfl)
  have f_min : mg "min" = none := He.free_ok X G (c.fact 32 (f := .free "min") rfl)
  have f_max : mg "max" = none := He.free_ok X G (c.fact 33 (f := .free "max") rfl)
  have f_sum : mg "sum" = none := He.free_ok X G (c.fact 34 (f := .free "sum") rfl)
  have f_any : mg "any" = none := He.free_ok X G (c.fact 35 (f := .free "any") rfl)
  have f_all : mg "all" = none := He.free_ok X G (c.fact 36 (f := .free "all") rfl)
  have f_sorted : mg "sorted" = none := He.free_ok X G (c.fact 37 (f := .free "sorted") rfl)
  have f_list : mg "list" = none := He.free_ok X G (c.fact 38 (f := .free "list") rfl)
  have f_tuple : mg "tuple" = none := He.free_ok X G (c.fact 39 (f := .free "tuple") rfl)
  have f_dict : mg "dict" = none := He.free_ok X G (c.fact 40 (f := .free "dict") rfl)
  have f_str : mg "str" = none := He.free_ok X G (c.fact 41 (f := .free "str") rfl)
  have f_int : mg "int" = none := He.free_ok X G (c.fact 42 (f := .free "int") rfl)
  have f_bool : mg "bool" = none := He.free_ok X G (c.fact 43 (f := .free "bool") rfl)
  have f_isinstance : mg "isinstance" = none := He.free_ok X G (c.fact 44 (f := .free "isinstance") rfl)
  have f_range : mg "range" = none := He.free_ok X G (c.fact 45 (f := .free "range") rfl)
  have f_set : mg "set" = none := He.free_ok X G (c.fact 46 (f := .free "set") rfl)
  have fr : ∀ x ∈ freeNames, mg x = none := by
    simp only [freeNames, List.mem_cons, List.not_mem_nil, or_false, forall_eq_or_imp, forall_eq]
    exact ⟨f_len, f_abs, f_min, f_max, f_sum, f_any, f_all, f_sorted, f_list, f_tuple, f_dict, f_str, f_int, f_bool, f_isinstance, f_range, f_set⟩
  have e := hfa.symm.trans g_law
  cases e
  have b := FunD.bindsA (ps := ["_law_script"]) F_law fun _ _ _ _ _ _ us hl => match us, hl with | [_], _ => rfl
  refine ⟨fd_law, fun s v => b s [v] rfl, fun base _ _ => ?_⟩
  · skip
    have c_made := (ok_made (P := P) (w := w) (base := base) g_made fr  F_made).2
    have c_times := (ok_times (P := P) (w := w) (base := base) g_times fr c_made F_times).2
    have c_power := (ok_power (P := P) (w := w) (base := base) g_power fr  F_power).2
    have c_over := (ok_over (P := P) (w := w) (base := base) g_over fr c_times c_power F_over).2
    have c_parts_of := (ok_parts_of (P := P) (w := w) (base := base) g_parts_of fr  F_parts_of).2
    have c_all_inputs := (ok_all_inputs (P := P) (w := w) (base := base) g_all_inputs fr c_parts_of F_all_inputs 20).2
    have c_inputs := (ok_inputs (P := P) (w := w) (base := base) g_inputs fr c_all_inputs F_inputs).2
    have c_noughts := (ok_noughts (P := P) (w := w) (base := base) g_noughts fr c_parts_of F_noughts 20).2
    have c_walked := (ok_walked (P := P) (w := w) (base := base) g_walked fr c_parts_of c_noughts c_power c_times c_over F_walked 20).2
    have c_lettered := (ok_lettered (P := P) (w := w) (base := base) g_lettered fr c_inputs c_noughts c_walked F_lettered).2
    have c_measure_of := (ok_measure_of (P := P) (w := w) (base := base) g_measure_of fr c_lettered F_measure_of).2
    have c_alike := (ok_alike (P := P) (w := w) (base := base) g_alike fr c_lettered F_alike).2
    have c__law_cell_at := (ok__law_cell_at (P := P) (w := w) (base := base) g__law_cell_at fr  F__law_cell_at).2
    have c__law_mix := (ok__law_mix (P := P) (w := w) (base := base) g__law_mix fr  F__law_mix).2
    have c__law_words := (ok__law_words (P := P) (w := w) (base := base) g__law_words fr  F__law_words).2
    have c__law_made := (ok__law_made (P := P) (w := w) (base := base) g__law_made fr  F__law_made).2
    have c__law_whole := (ok__law_whole (P := P) (w := w) (base := base) g__law_whole fr  F__law_whole).2
    have c__law_is_measure := (ok__law_is_measure (P := P) (w := w) (base := base) g__law_is_measure fr c__law_whole F__law_is_measure).2
    have c__law_small := (ok__law_small (P := P) (w := w) (base := base) g__law_small fr c__law_mix c__law_made F__law_small).2
    have c__law_shared := (ok__law_shared (P := P) (w := w) (base := base) g__law_shared fr  F__law_shared).2
    have c__law_lowest := (ok__law_lowest (P := P) (w := w) (base := base) g__law_lowest fr c__law_shared F__law_lowest).2
    have c__law_number := (ok__law_number (P := P) (w := w) (base := base) g__law_number fr c__law_lowest F__law_number).2
    have c__law_leaf := (ok__law_leaf (P := P) (w := w) (base := base) g__law_leaf fr c__law_small c__law_number c__law_mix F__law_leaf).2
    have c__law_tree := (ok__law_tree (P := P) (w := w) (base := base) g__law_tree fr c__law_leaf c__law_mix F__law_tree 20).2
    have c__law_parts := (ok__law_parts (P := P) (w := w) (base := base) g__law_parts fr  F__law_parts).2
    have c__law_noughts := (ok__law_noughts (P := P) (w := w) (base := base) g__law_noughts fr c__law_parts F__law_noughts 20).2
    have c__law_times := (ok__law_times (P := P) (w := w) (base := base) g__law_times fr c__law_made F__law_times).2
    have c__law_walk := (ok__law_walk (P := P) (w := w) (base := base) g__law_walk fr c__law_parts c__law_noughts c__law_times F__law_walk 20).2
    have c__law_inputs := (ok__law_inputs (P := P) (w := w) (base := base) g__law_inputs fr c__law_parts F__law_inputs 20).2
    exact (ok_law (P := P) (w := w) (base := base) g_law fr c__law_words c__law_cell_at c__law_tree c__law_leaf c__law_inputs c__law_walk c__law_noughts c_alike c__law_is_measure c_measure_of F_law).1
end MPk07
open PySem PySem.W PySem.Calls PyProof.Rows
theorem MPk07_holds (plain : ∀ ns : List Int, ns.length ≤ 63 → MPk07.m_law [.scr ns] = .ok (.bl true, .fz)) : PySem.Challenge.rw_measurekind_k07_alike_told.Holds := by
  w_on; o_law
  refine HandSHeadRun.head_any (r := OpenLaw.row PySem.Challenge.rw_measurekind_k07_alike_told) (q := view (OpenLaw.row PySem.Challenge.rw_measurekind_k07_alike_told).prog [33]) (H := MPk07.hk) (ob := MPk07.ob) (M := 20000) (loose := MPk07.loose) (d := HandSHeadRun.topDef (OpenLaw.row PySem.Challenge.rw_measurekind_k07_alike_told).prog 33) (kwd := []) MPk07.ob_eq
    (by kernel_rfl) (fun s => by kernel_rfl) MPk07.run (by kernel_rfl) (by kernel_rfl) (by kernel_rfl) (by rfl) (by first | assumption | decide +kernel) (by decide +kernel) ⟨rfl, rfl, rfl, rfl, rfl, by decide +kernel⟩ ?hw ?hc
  case hw => w_witness2
  case hc =>
    refine MP.walk_mp (l := PySem.Challenge.rw_measurekind_k07_alike_told) (n := 63) (k := 44) (x := "_law_script") (m := MPk07.m_law) rfl (by decide) (by kernel_rfl) ⟨rfl, by decide, by decide⟩ plain ?F
    intro w mg fa h Y G hmg0
    obtain ⟨K, KX, c⟩ := Y
    have hmg : mg ("law" : PySem.Str) = some (.ref fa) := by
      have e : (HandSHeadRun.topDef (OpenLaw.row PySem.Challenge.rw_measurekind_k07_alike_told).prog 33).name = ("law" : PySem.Str) := by kernel_rfl
      rw [← e]
      exact hmg0
    obtain ⟨fd, hb, hF⟩ := MPk07.facts (P := (PySem.Challenge.rw_measurekind_k07_alike_told).prog) (w := w) KX G hmg c
    exact ⟨K, fd, KX, hb, hF⟩

namespace MP
open PySem PySem.Spec PyProof.Rows L2
/-! ### words of the plain part -/
theorem grd_T {α : Type} (r : R α) : grd True r = r := grd_pos trivial r
/-! ### steps without a binder in sight -/
noncomputable def seqR (r : R Fl) (ss : Ss) : R Fl := match r with
  | .ok (.next σ) => exs ss σ
  | .ok (.ret d k) => .ok (.ret d k)
  | .err x => .err x
  | .stuck => .stuck
theorem seq_next (σ : SD) (ss : Ss) : seqR (.ok (.next σ)) ss = exs ss σ := rfl
theorem seq_ret (d : D) (k : Kd) (ss : Ss) : seqR (.ok (.ret d k)) ss = .ok (.ret d k) := rfl
theorem seq_err (x : Exn) (ss : Ss) : seqR (.err x) ss = .err x := rfl
theorem s_cons (s : S) (ss : Ss) (σ : SD) : exs (.cons s ss) σ = seqR (ex s σ) ss := by
  simp only [exs]
  cases ex s σ with
  | ok r => cases r <;> rfl
  | err x => rfl
  | stuck => rfl
theorem s_nil (σ : SD) : exs .nil σ = .ok (.next σ) := by simp only [exs]
theorem s_frz (i : Nat) (ss : Ss) (σ : SD) : exs (.frz i ss) σ = exs ss (freeze σ i) := by simp only [exs]
theorem s_fgt (is : List Nat) (ss : Ss) (σ : SD) : exs (.fgt is ss) σ = exs ss (wipeD σ is) := by simp only [exs]
noncomputable def ifR (r : R Bool) (a b : Ss) (σ : SD) : R Fl := r.bind fun k => if k then exs a σ else exs b σ
theorem if_t (a b : Ss) (σ : SD) : ifR (.ok true) a b σ = exs a σ := rfl
theorem if_f (a b : Ss) (σ : SD) : ifR (.ok false) a b σ = exs b σ := rfl
theorem s_ifs (c : E) (a b : Ss) (σ : SD) : ex (.ifs c a b) σ = ifR ((ev c σ).bind asTest) a b σ := by simp only [ex, ifR]
noncomputable def turnF (tg : Tg) (body : Ss) (x : D) (σ : SD) : R Fl := (bindTg tg σ x).bind fun σ2 => exs body σ2
theorem s_fors (tg : Tg) (it : It) (fg : List Nat) (body : Ss) (σ : SD) : ex (.fors tg it fg body) σ = (evIt it σ).bind fun xs => exFor (turnF tg body) fg xs σ := by
  simp only [ex]
  rfl
noncomputable def testW (c : E) (σ : SD) : R Bool := (ev c σ).bind asTest
noncomputable def turnW (body : Ss) (σ : SD) : R Fl := exs body σ
theorem s_whl (fuel : SD → Nat) (c : E) (fg : List Nat) (body : Ss) (σ : SD) : ex (.whl fuel c fg body) σ = exWhile (testW c) (turnW body) fg (fuel σ) σ := by
  simp only [ex]
  rfl
theorem s_nm_fz (i : Nat) (σ : SD) (d : D) : asgD σ (.nm i) (d, .fz) = .ok (σ.set i (some (d, false))) := rfl
theorem s_nm_fr (i : Nat) (σ : SD) (d : D) : asgD σ (.nm i) (d, .fr) = .ok (σ.set i (some (d, true))) := rfl
theorem s_tp (is : List Nat) (σ : SD) (d : D) (k : Kd) : asgD σ (.tp is) (d, k) = (notBo (d, k)).bind fun d => bindTg (.tp is) σ d := rfl
theorem s_asg (tg : Tg) (e : E) (σ : SD) : ex (.asg tg e) σ = (ev e σ).bind fun p => (asgD σ tg p).bind fun σ2 => .ok (.next σ2) := by simp only [ex]
theorem s_ret (e : E) (σ : SD) : ex (.ret e) σ = (ev e σ).bind fun p => .ok (.ret p.1 (retK p.2)) := by simp only [ex]
theorem s_rse (c : Str) (σ : SD) : ex (.rse c) σ = .err (.own c) := by simp only [ex]
noncomputable def putR (r : R DK) (i : Nat) (k : E) (σ : SD) : R Fl := r.bind fun p => (notBo p).bind fun v => (ownAt σ i).bind fun d => (ev k σ).bind fun q => (putD d q.1 v).bind fun d2 => .ok (.next (setOwn σ i d2))
theorem s_put (i : Nat) (k e : E) (σ : SD) : ex (.put i k e) σ = (ev e σ).bind fun p => (notBo p).bind fun v => (ownAt σ i).bind fun d => (ev k σ).bind fun q => (putD d q.1 v).bind fun d2 => .ok (.next (setOwn σ i d2)) := by simp only [ex]
theorem s_app (i : Nat) (e : E) (σ : SD) : ex (.app i e) σ = (ownL σ i).bind fun d => (ev e σ).bind fun p => (notBo p).bind fun v => (appD d v).bind fun d2 => .ok (.next (setOwn σ i d2)) := by simp only [ex]
theorem s_ext (i : Nat) (e : E) (σ : SD) : ex (.ext i e) σ = (ownL σ i).bind fun d => (ev e σ).bind fun p => (notBo p).bind fun v => (extD d v).bind fun d2 => .ok (.next (setOwn σ i d2)) := by simp only [ex]
theorem s_par (i j : Nat) (a b : E) (σ : SD) : ex (.par i j a b) σ = (ev a σ).bind fun p => (ev b σ).bind fun q => (notBo p).bind fun d => (notBo q).bind fun e => .ok (.next ((σ.set i (some (d, false))).set j (some (e, false)))) := by simp only [ex]
/-- and, or -/
noncomputable def andR (r : R Bool) (b : E) (σ : SD) : R DK := r.bind fun k => if k then (ev b σ).bind fun q => (asTest q).bind fun l => .ok (.bl l, .fz) else .ok (.bl false, .fz)
noncomputable def orR (r : R Bool) (b : E) (σ : SD) : R DK := r.bind fun k => if k then .ok (.bl true, .fz) else (ev b σ).bind fun q => (asTest q).bind fun l => .ok (.bl l, .fz)
theorem and_t (b : E) (σ : SD) : andR (.ok true) b σ = (ev b σ).bind fun q => (asTest q).bind fun l => .ok (.bl l, .fz) := rfl
theorem and_f (b : E) (σ : SD) : andR (.ok false) b σ = .ok (.bl false, .fz) := rfl
theorem or_t (b : E) (σ : SD) : orR (.ok true) b σ = .ok (.bl true, .fz) := rfl
theorem or_f (b : E) (σ : SD) : orR (.ok false) b σ = (ev b σ).bind fun q => (asTest q).bind fun l => .ok (.bl l, .fz) := rfl
theorem e_and (a b : E) (σ : SD) : ev (.and a b) σ = andR ((ev a σ).bind asTest) b σ := by
  simp only [ev, andR]
  cases ev a σ <;> rfl
theorem e_or (a b : E) (σ : SD) : ev (.or a b) σ = orR ((ev a σ).bind asTest) b σ := by
  simp only [ev, orR]
  cases ev a σ <;> rfl
theorem test_bl (b : Bool) (k : Kd) : asTest (.bl b, k) = .ok b := rfl
noncomputable def turnL (elt : E) (tg : Tg) (own : List Nat) (c : Eo) (σ : SD) (x : D) : R (Option D) := (bindTg tg (wipeD σ own) x).bind fun σ2 => (evo c σ2).bind fun k => if k then (ev elt σ2).bind fun p => (notBo p).bind fun d => .ok (some d) else .ok none
theorem e_lc (elt : E) (tg : Tg) (own : List (Str × Nat)) (it : It) (c : Eo) (σ : SD) : ev (.lc elt tg own it c) σ = (evIt it σ).bind fun xs => grd (xs.length ≤ 1000000) ((noErr (evItems (turnL elt tg (own.map (·.2)) c σ) xs)).bind fun ds => .ok (.lst ds, .fr)) := by
  simp only [ev]
  rfl
theorem notBo_fz (d : D) : notBo (d, .fz) = .ok d := rfl
theorem notBo_fr (d : D) : notBo (d, .fr) = .ok d := rfl
theorem retK_fz : retK .fz = .fz := rfl
theorem retK_fr : retK .fr = .fr := rfl
theorem retK_bo : retK .bo = .fr := rfl
theorem noErr_ok {α : Type} (a : α) : noErr (.ok a) = .ok a := rfl
theorem slots_nil : ([] : List D).map (fun d => some (d, false)) = [] := rfl
theorem slots_cons (d : D) (ds : List D) : (d :: ds).map (fun d => some (d, false)) = some (d, false) :: ds.map (fun d => some (d, false)) := rfl
theorem cmx {i j : Int} (h1 : -(2 ^ 1000) < i) (h2 : i < 2 ^ 1000) (h3 : -(2 ^ 1000) < j) (h4 : j < 2 ^ 1000) : CMulX i j := by
  have b : ∀ x : Int, -(2 ^ 1000) < x → x < 2 ^ 1000 → Builtin.Int.intBits x ≤ 1001 := by
    intro x a b
    unfold Builtin.Int.intBits
    split
    · omega
    · have hn : x.natAbs < 2 ^ 1000 := by omega
      have hx : x.natAbs ≠ 0 := by rename_i q; simpa using q
      have := (Nat.log2_lt hx).mpr hn
      omega
  have := b i h1 h2
  have := b j h3 h4
  unfold CMulX
  omega
theorem cast0 : ((0 : Nat) : Int) = 0 := rfl
theorem cast1 : ((1 : Nat) : Int) = 1 := rfl
theorem cast2 : ((2 : Nat) : Int) = 2 := rfl
theorem cast3 : ((3 : Nat) : Int) = 3 := rfl
theorem cast4 : ((4 : Nat) : Int) = 4 := rfl
theorem fmodP {a b : Int} (h : 0 < b) : a.fmod b = a % b := Int.fmod_eq_emod_of_nonneg a (by omega)
theorem fdivP {a b : Int} (h : 0 < b) : a.fdiv b = a / b := Int.fdiv_eq_ediv_of_nonneg a (by omega)
theorem dvok {j : Int} (h : 0 < j) (h2 : j < 2 ^ 1000) : j ≠ 0 ∧ j.natAbs.log2 < 9000 := by
  refine ⟨by omega, ?_⟩
  have hn : j.natAbs < 2 ^ 1000 := by omega
  have := (Nat.log2_lt (by omega)).mpr hn
  omega
theorem okD_int (i : Int) : okD (.int i) = True := by unfold okD; rw [toPy]; exact eq_true (by rfl)
theorem okD_non : okD .non = True := by unfold okD; rw [toPy]; exact eq_true (by rfl)
theorem okD_bl (i : Bool) : okD (.bl i) = True := by unfold okD; rw [toPy]; exact eq_true (by rfl)
theorem eqD_int (i j : Int) : eqD (.int i) (.int j) = decide (i = j) := by
  unfold eqD
  simp only [toPy, PyData.eqv]
  by_cases h : i = j <;> simp [h]
/-! ### loops -/
theorem exFor_range0 {step : D → SD → R Fl} {fg : List Nat} (I : Nat → SD → Prop) (n : Nat) (hs : ∀ (k : Nat) σ, k < n → I k σ → ∃ σ', step (.int k) σ = .ok (.next σ') ∧ I (k + 1) (wipeD σ' fg)) :
    ∀ (m k : Nat) (σ : SD), k + m = n → I k σ → ∃ σ', exFor step fg (rangeD k m) σ = .ok (.next (wipeD σ' fg)) ∧ I n σ'
  | 0, k, σ, e, h => ⟨σ, rfl, by rw [← e]; exact h⟩
  | m + 1, k, σ, e, h => by
    obtain ⟨σ', e1, h'⟩ := hs k σ (by omega) h
    obtain ⟨σ2, e2, h2⟩ := exFor_range0 I n hs m (k + 1) _ (by omega) h'
    refine ⟨σ2, ?_, h2⟩
    simp only [rangeD, exFor, e1, MP.R.bind_ok]
    have : ((k + 1 : Nat) : Int) = (k : Int) + 1 := by omega
    rw [this] at e2
    exact e2
theorem exFor_range {step : D → SD → R Fl} {fg : List Nat} (I : Nat → SD → Prop) (n : Nat) (hs : ∀ (k : Nat) σ, k < n → I k σ → ∃ σ', step (.int k) σ = .ok (.next σ') ∧ I (k + 1) (wipeD σ' fg)) {σ : SD} (h : I 0 σ) :
    ∃ σ', exFor step fg (rangeD 0 n) σ = .ok (.next (wipeD σ' fg)) ∧ I n σ' := exFor_range0 I n hs n 0 σ (by omega) h
theorem exFor_inv {step : D → SD → R Fl} {fg : List Nat} (I : List D → SD → Prop) (hs : ∀ x xs σ, I (x :: xs) σ → ∃ σ', step x σ = .ok (.next σ') ∧ I xs (wipeD σ' fg)) :
    ∀ (xs : List D) (σ : SD), I xs σ → ∃ σ', exFor step fg xs σ = .ok (.next (wipeD σ' fg)) ∧ I [] σ'
  | [], σ, h => ⟨σ, rfl, h⟩
  | x :: xs, σ, h => by
    obtain ⟨σ', e, h'⟩ := hs x xs σ h
    obtain ⟨σ2, e2, h2⟩ := exFor_inv I hs xs _ h'
    refine ⟨σ2, ?_, h2⟩
    simp only [exFor, e, MP.R.bind_ok]
    exact e2
theorem exFor_fold {α : Type} {step : D → SD → R Fl} {fg : List Nat} (mk : α → SD) (f : α → D → α) (P : α → List D → Prop) (hs : ∀ a x xs, P a (x :: xs) → ∃ σ', step x (mk a) = .ok (.next σ') ∧ wipeD σ' fg = mk (f a x) ∧ P (f a x) xs)
    (h0 : ∀ a, wipeD (mk a) fg = mk a) : ∀ (xs : List D) (a : α), P a xs → exFor step fg xs (mk a) = .ok (.next (mk (xs.foldl f a)))
  | [], a, _ => by simp only [exFor, h0, List.foldl_nil]
  | x :: xs, a, h => by
    obtain ⟨σ', e, e2, h'⟩ := hs a x xs h
    simp only [exFor, e, MP.R.bind_ok, e2, List.foldl_cons]
    exact exFor_fold mk f P hs h0 xs _ h'
theorem for_range {step : D → SD → R Fl} {fg : List Nat} {n : Nat} {σ : SD} {X : R Fl} {G : Prop} (hX : exFor step fg (rangeD 0 n) σ = X) (I : Nat → SD → Prop) (h : I 0 σ)
    (hs : ∀ (k : Nat) σ, k < n → I k σ → ∃ σ', step (.int k) σ = .ok (.next σ') ∧ I (k + 1) (wipeD σ' fg)) (k : ∀ σ', I n σ' → X = .ok (.next (wipeD σ' fg)) → G) : G := by
  obtain ⟨σ', e, i⟩ := exFor_range I n hs h
  exact k σ' i (hX.symm.trans e)
theorem for_inv {step : D → SD → R Fl} {fg : List Nat} {xs : List D} {σ : SD} {X : R Fl} {G : Prop} (hX : exFor step fg xs σ = X) (I : List D → SD → Prop) (h : I xs σ)
    (hs : ∀ x xs σ, I (x :: xs) σ → ∃ σ', step x σ = .ok (.next σ') ∧ I xs (wipeD σ' fg)) (k : ∀ σ', I [] σ' → X = .ok (.next (wipeD σ' fg)) → G) : G := by
  obtain ⟨σ', e, i⟩ := exFor_inv I hs xs σ h
  exact k σ' i (hX.symm.trans e)
theorem for_fold {α : Type} {step : D → SD → R Fl} {fg : List Nat} {xs : List D} {σ : SD} {X : R Fl} (hX : exFor step fg xs σ = X) (mk : α → SD) (f : α → D → α) (P : α → List D → Prop) (a : α) (e : σ = mk a) (p : P a xs)
    (hs : ∀ a x xs, P a (x :: xs) → ∃ σ', step x (mk a) = .ok (.next σ') ∧ wipeD σ' fg = mk (f a x) ∧ P (f a x) xs)
    (h0 : ∀ a, wipeD (mk a) fg = mk a) : X = .ok (.next (mk (xs.foldl f a))) := by
  rw [← hX, e]
  exact exFor_fold mk f P hs h0 xs a p
theorem snoc_strs (ws : List Str) (w : Str) : ws.map D.str ++ [D.str w] = (ws ++ [w]).map D.str := by rw [List.map_append]; rfl
/-- a comprehension, item by item -/
theorem evItems_map {step : D → R (Option D)} {f : D → Option D} : ∀ {xs : List D}, (∀ x ∈ xs, step x = .ok (f x)) → evItems step xs = .ok (xs.filterMap f)
  | [], _ => rfl
  | x :: xs, h => by
    simp only [evItems, h x List.mem_cons_self, MP.R.bind_ok, evItems_map fun y hy => h y (List.mem_cons_of_mem _ hy)]
    rw [List.filterMap_cons]
    cases f x <;> rfl
theorem items_map {step : D → R (Option D)} {xs : List D} {X : R (List D)} (hX : evItems step xs = X) (f : D → Option D) (h : ∀ x ∈ xs, step x = .ok (f x)) : X = .ok (xs.filterMap f) := by
  rw [← hX]
  exact evItems_map h
/-! ### kinds -/
theorem isi_int_int (i : Int) : isiD (.int i) "int" = .ok (.bl true, .fz) := by rfl
theorem isi_int_bool (i : Int) : isiD (.int i) "bool" = .ok (.bl false, .fz) := by rfl
theorem isi_str_str (i : Str) : isiD (.str i) "str" = .ok (.bl true, .fz) := by rfl
theorem isi_tup_tup (i : List D) : isiD (.tup i) "tuple" = .ok (.bl true, .fz) := by rfl
/-! ### dicts of numbers -/
abbrev Ms := List (Str × Int)
def mpD (p : Str × Int) : D := .tup [.str p.1, .int p.2]
def msD (ms : Ms) : D := .tup (ms.map mpD)
def dkI (ks : Ms) : List (Str × D) := ks.map fun p => (p.1, .int p.2)
def iget : Ms → Str → Option Int
  | [], _ => none
  | p :: ks, s => if p.1 = s then some p.2 else iget ks s
def iput : Ms → Str → Int → Ms
  | [], s, i => [(s, i)]
  | p :: ks, s, i => if p.1 = s then (p.1, i) :: ks else p :: iput ks s i
theorem dget_dkI : ∀ (ks : Ms) (s : Str), dget (dkI ks) s = (iget ks s).map D.int
  | [], _ => rfl
  | p :: ks, s => by
    have ih := dget_dkI ks s
    unfold dget dkI at *
    unfold iget
    rw [List.map_cons, List.find?_cons]
    by_cases h : p.1 = s
    · simp [h]
    · simp [h]; simpa using ih
theorem dput_out : ∀ {ks : List (Str × D)} {s : Str} {d : D}, s ∉ ks.map (·.1) → (ks.map fun p => if p.1 = s then (p.1, d) else p) = ks
  | [], _, _, _ => rfl
  | p :: ks, s, d, h => by
    rw [List.map_cons, dput_out fun z => h (List.mem_cons_of_mem _ z)]
    rw [if_neg fun e => h (by rw [List.map_cons, e]; exact List.mem_cons_self)]
theorem dput_cons (p : Str × D) (ks : List (Str × D)) (s : Str) (d : D) (h : p.1 ≠ s) : dput (p :: ks) s d = p :: dput ks s d := by
  unfold dput
  rw [List.any_cons]
  simp only [h, decide_false, Bool.false_or, List.map_cons, if_false, List.cons_append]
  split <;> rfl
theorem dput_dkI : ∀ {ks : Ms} (s : Str) (i : Int), (ks.map (·.1)).Nodup → dput (dkI ks) s (.int i) = dkI (iput ks s i)
  | [], _, _, _ => rfl
  | p :: ks, s, i, h => by
    rw [List.map_cons, List.nodup_cons] at h
    by_cases e : p.1 = s
    · unfold iput
      rw [if_pos e]
      unfold dput
      have o : s ∉ (dkI ks).map (·.1) := by
        rw [← e]
        unfold dkI
        rw [List.map_map]
        exact h.1
      show (if ((p.1, D.int p.2) :: dkI ks).any (fun q => decide (q.1 = s)) = true then ((p.1, D.int p.2) :: dkI ks).map _ else _) = (p.1, D.int i) :: dkI ks
      rw [List.any_cons, List.map_cons, dput_out o]
      simp [e]
    · unfold iput
      rw [if_neg e]
      show dput ((p.1, D.int p.2) :: dkI ks) s (.int i) = (p.1, D.int p.2) :: dkI (iput ks s i)
      rw [dput_cons _ _ _ _ e, dput_dkI s i h.2]
theorem dkI_keys (ks : Ms) : (dkI ks).map (·.1) = ks.map (·.1) := by
  unfold dkI
  rw [List.map_map]
  rfl
theorem dkI_len (ks : Ms) : (dkI ks).length = ks.length := by unfold dkI; rw [List.length_map]
theorem iput_keys : ∀ (ks : Ms) (s : Str) (i : Int), (iput ks s i).map (·.1) = if s ∈ ks.map (·.1) then ks.map (·.1) else ks.map (·.1) ++ [s]
  | [], s, i => by simp [iput]
  | p :: ks, s, i => by
    have ih := iput_keys ks s i
    unfold iput
    by_cases e : p.1 = s
    · simp [e]
    · have e' : ¬ s = p.1 := fun z => e z.symm
      rw [if_neg e, List.map_cons, ih, List.map_cons]
      by_cases m : s ∈ ks.map (·.1)
      · rw [if_pos m, if_pos (List.mem_cons_of_mem _ m)]
      · rw [if_neg m, if_neg (by rw [List.mem_cons]; exact fun z => z.elim e' m)]
        rfl
theorem iput_nodup {ks : Ms} (s : Str) (i : Int) (h : (ks.map (·.1)).Nodup) : ((iput ks s i).map (·.1)).Nodup := by
  rw [iput_keys]
  by_cases e : s ∈ ks.map (·.1)
  · rw [if_pos e]; exact h
  · rw [if_neg e]
    rw [List.nodup_append]
    refine ⟨h, by simp, fun a ha b hb => ?_⟩
    rw [List.mem_singleton] at hb
    subst hb
    exact fun z => e (z ▸ ha)
theorem iput_len : ∀ (ks : Ms) (s : Str) (i : Int), (iput ks s i).length ≤ ks.length + 1
  | [], _, _ => Nat.le_refl _
  | p :: ks, s, i => by
    have ih := iput_len ks s i
    unfold iput
    split <;> simp <;> omega
theorem iget_none : ∀ {ks : Ms} {s : Str}, s ∉ ks.map (·.1) → iget ks s = none
  | [], _, _ => rfl
  | p :: ks, s, h => by
    unfold iget
    rw [if_neg fun e => h (by rw [List.map_cons, e]; exact List.mem_cons_self), iget_none fun z => h (List.mem_cons_of_mem _ z)]
theorem iget_some : ∀ {ks : Ms} {s : Str}, s ∈ ks.map (·.1) → ∃ i, iget ks s = some i
  | [], _, h => by simp at h
  | p :: ks, s, h => by
    unfold iget
    by_cases e : p.1 = s
    · exact ⟨_, if_pos e⟩
    · rw [if_neg e]
      rw [List.map_cons, List.mem_cons] at h
      exact iget_some (h.resolve_left fun z => e z.symm)
theorem iget_mem : ∀ {ks : Ms} {s : Str} {i : Int}, iget ks s = some i → (s, i) ∈ ks
  | [], _, _, h => by simp [iget] at h
  | p :: ks, s, i, h => by
    unfold iget at h
    by_cases e : p.1 = s
    · rw [if_pos e] at h
      cases h
      subst e
      exact List.mem_cons_self
    · rw [if_neg e] at h
      exact List.mem_cons_of_mem _ (iget_mem h)
theorem iget_of_mem : ∀ {ks : Ms} {s : Str} {i : Int}, (ks.map (·.1)).Nodup → (s, i) ∈ ks → iget ks s = some i
  | [], _, _, _, h => by simp at h
  | p :: ks, s, i, n, h => by
    rw [List.map_cons, List.nodup_cons] at n
    unfold iget
    rcases List.mem_cons.mp h with e | h
    · subst e; exact if_pos rfl
    · rw [if_neg fun z => n.1 (by rw [z]; exact List.mem_map.mpr ⟨_, h, rfl⟩)]
      exact iget_of_mem n.2 h
theorem iget_put : ∀ (ks : Ms) (s t : Str) (i : Int), iget (iput ks s i) t = if s = t then some i else iget ks t
  | [], s, t, i => by simp [iput, iget]
  | p :: ks, s, t, i => by
    have ih := iget_put ks s t i
    unfold iput
    by_cases e : p.1 = s
    · rw [if_pos e]
      unfold iget
      show (if p.1 = t then some i else iget ks t) = _
      by_cases z : p.1 = t
      · rw [if_pos z, if_pos (e.symm.trans z)]
      · rw [if_neg z, if_neg fun q => z (e.trans q), if_neg z]
    · rw [if_neg e]
      unfold iget
      by_cases z : p.1 = t
      · rw [if_pos z, if_pos z, if_neg fun q => e (z.trans q.symm)]
      · rw [if_neg z, if_neg z, ih]
theorem iput_new : ∀ {ks : Ms} {s : Str} {i : Int}, s ∉ ks.map (·.1) → iput ks s i = ks ++ [(s, i)]
  | [], _, _, _ => rfl
  | p :: ks, s, i, h => by
    unfold iput
    rw [if_neg fun e => h (by rw [List.map_cons, e]; exact List.mem_cons_self), iput_new fun z => h (List.mem_cons_of_mem _ z)]
    rfl
/-- all of ms added -/
def addM (ks ms : Ms) : Ms := ms.foldl (fun acc p => iput acc p.1 ((iget acc p.1).getD 0 + p.2)) ks
def total (ks : Ms) (s : Str) : Int := (iget ks s).getD 0
theorem addM_nodup : ∀ {ms ks : Ms}, (ks.map (·.1)).Nodup → ((addM ks ms).map (·.1)).Nodup
  | [], _, h => h
  | p :: ms, ks, h => addM_nodup (ms := ms) (iput_nodup _ _ h)
theorem addM_len : ∀ (ms ks : Ms), (addM ks ms).length ≤ ks.length + ms.length
  | [], _ => Nat.le_refl _
  | p :: ms, ks => by
    have h1 := addM_len ms (iput ks p.1 ((iget ks p.1).getD 0 + p.2))
    have h2 := iput_len ks p.1 ((iget ks p.1).getD 0 + p.2)
    show (addM (iput ks p.1 ((iget ks p.1).getD 0 + p.2)) ms).length ≤ _
    rw [List.length_cons]
    omega
theorem addM_keys : ∀ (ms ks : Ms) (s : Str), s ∈ (addM ks ms).map (·.1) ↔ s ∈ ks.map (·.1) ∨ s ∈ ms.map (·.1)
  | [], ks, s => by simp [addM]
  | p :: ms, ks, s => by
    have ih := addM_keys ms (iput ks p.1 ((iget ks p.1).getD 0 + p.2)) s
    show s ∈ (addM (iput ks p.1 ((iget ks p.1).getD 0 + p.2)) ms).map (·.1) ↔ _
    rw [ih, iput_keys, List.map_cons, List.mem_cons]
    by_cases m : p.1 ∈ ks.map (·.1)
    · rw [if_pos m]
      constructor
      · rintro (h | h)
        · exact .inl h
        · exact .inr (.inr h)
      · rintro (h | rfl | h)
        · exact .inl h
        · exact .inl m
        · exact .inr h
    · rw [if_neg m, List.mem_append, List.mem_singleton]
      constructor
      · rintro ((h | h) | h)
        · exact .inl h
        · exact .inr (.inl h)
        · exact .inr (.inr h)
      · rintro (h | h | h)
        · exact .inl (.inl h)
        · exact .inl (.inr h)
        · exact .inr h
theorem addM_total : ∀ (ms ks : Ms) (s : Str), (ms.map (·.1)).Nodup → total (addM ks ms) s = total ks s + total ms s
  | [], ks, s, _ => by simp [addM, total, iget]
  | p :: ms, ks, s, n => by
    rw [List.map_cons, List.nodup_cons] at n
    have ih := addM_total ms (iput ks p.1 ((iget ks p.1).getD 0 + p.2)) s n.2
    show total (addM (iput ks p.1 ((iget ks p.1).getD 0 + p.2)) ms) s = _
    rw [ih]
    unfold total
    rw [iget_put]
    by_cases e : p.1 = s
    · subst e
      rw [if_pos rfl, iget_none n.1]
      simp [iget]
    · rw [if_neg e]
      simp [iget, e]
theorem addM_nil : ∀ {ms ks : Ms}, (ms.map (·.1)).Nodup → (∀ s ∈ ms.map (·.1), s ∉ ks.map (·.1)) → addM ks ms = ks ++ ms
  | [], ks, _, _ => by simp [addM]
  | p :: ms, ks, n, d => by
    rw [List.map_cons, List.nodup_cons] at n
    have h0 : p.1 ∉ ks.map (·.1) := d _ (by rw [List.map_cons]; exact List.mem_cons_self)
    show addM (iput ks p.1 ((iget ks p.1).getD 0 + p.2)) ms = _
    rw [iget_none h0, iput_new h0, addM_nil n.2 (fun s hs => ?_)]
    · simp
    · rw [List.map_append, List.mem_append]
      rintro (z | z)
      · exact d s (by rw [List.map_cons]; exact List.mem_cons_of_mem _ hs) z
      · have z' : s = p.1 := by simpa using z
        subst z'
        exact n.1 hs
def scale (n : Int) (ms : Ms) : Ms := ms.map fun p => (p.1, p.2 * n)
theorem scale_keys (n : Int) (ms : Ms) : (scale n ms).map (·.1) = ms.map (·.1) := by
  unfold scale
  rw [List.map_map]
  rfl
theorem scale_total (n : Int) : ∀ (ms : Ms) (s : Str), total (scale n ms) s = total ms s * n
  | [], s => by simp [scale, total, iget]
  | p :: ms, s => by
    have ih := scale_total n ms s
    unfold total at *
    show (iget ((p.1, p.2 * n) :: scale n ms) s).getD 0 = _
    unfold iget
    by_cases e : p.1 = s
    · simp [e]
    · simp [e]; exact ih
theorem scale_one (ms : Ms) : scale 1 ms = ms := by
  unfold scale
  simp
/-! ### measures -/
/-- a letter: not empty, of proper signs -/
def Ltr (s : Str) : Prop := strLt Str.empty s = true ∧ PyData.canLay0 (.str s) = true
structure Meas (ms : Ms) : Prop where
  up : ms.Pairwise fun p q => strLt p.1 q.1 = true
  nz : ∀ p ∈ ms, p.2 ≠ 0
  lt : ∀ p ∈ ms, Ltr p.1
def madeM (ks : Ms) : Ms := (sortS (ks.map (·.1))).filterMap fun s => if total ks s ≠ 0 then some (s, total ks s) else none
theorem Meas.nodup {ms : Ms} (h : Meas ms) : (ms.map (·.1)).Nodup := by
  unfold List.Nodup
  rw [List.pairwise_map]
  exact h.up.imp fun h e => by rw [e, strLt_irrefl] at h; cases h
theorem up_strict {l : List Str} (h : Up l) (n : l.Nodup) : l.Pairwise fun a b => strLt a b = true := by
  unfold Up at h
  unfold List.Nodup at n
  refine (h.and n).imp ?_
  intro a b ⟨h1, h2⟩
  cases e : strLt a b with
  | true => rfl
  | false => exact absurd (strLt_total e h1) h2
theorem madeM_meas {ks : Ms} (n : (ks.map (·.1)).Nodup) (l : ∀ s ∈ ks.map (·.1), Ltr s) : Meas (madeM ks) := by
  have p := sortS_perm (ks.map (·.1))
  have st := up_strict (sortS_up (ks.map (·.1))) (p.nodup_iff.mpr n)
  unfold madeM
  refine ⟨?_, fun q hq => ?_, fun q hq => ?_⟩
  · rw [List.pairwise_filterMap]
    refine st.imp fun h => ?_
    intro b hb b' hb'
    split at hb <;> split at hb' <;> first | (cases hb; cases hb'; exact h) | (cases hb; done) | (cases hb'; done)
  · obtain ⟨s, hs, e⟩ := List.mem_filterMap.mp hq
    split at e
    · rename_i h; cases e; exact h
    · cases e
  · obtain ⟨s, hs, e⟩ := List.mem_filterMap.mp hq
    split at e
    · cases e; exact l _ (p.mem_iff.mp hs)
    · cases e
theorem madeM_of {ms : Ms} (h : Meas ms) : madeM ms = ms := by
  unfold madeM
  have u : Up (ms.map (·.1)) := by
    unfold Up
    rw [List.pairwise_map]
    refine h.up.imp fun {a b} q => ?_
    cases e : strLt b.1 a.1 with
    | false => rfl
    | true => have := strLt_trans q e; rw [strLt_irrefl] at this; cases this
  rw [up_unique (sortS_up _) u (sortS_perm _), List.filterMap_map]
  have key : ∀ l : Ms, (∀ p ∈ l, p ∈ ms) → l.filterMap ((fun s => if total ms s ≠ 0 then some (s, total ms s) else none) ∘ fun p => p.1) = l := by
    intro l
    induction l with
    | nil => intro _; rfl
    | cons p l ih =>
      intro hl
      have hp := hl p List.mem_cons_self
      have e : total ms p.1 = p.2 := by unfold total; rw [iget_of_mem h.nodup (show (p.1, p.2) ∈ ms from hp)]; rfl
      rw [List.filterMap_cons]
      simp only [Function.comp, e, h.nz p hp, ne_eq, not_false_eq_true, if_true]
      rw [ih fun q hq => hl q (List.mem_cons_of_mem _ hq)]
  exact key ms fun _ h => h
theorem madeM_zero {ks : Ms} (h : ∀ s, total ks s = 0) : madeM ks = [] := by
  unfold madeM
  rw [List.filterMap_eq_nil_iff]
  intro s _
  simp [h s]
theorem scale_meas {ms : Ms} {n : Int} (h : Meas ms) (hn : n ≠ 0) : Meas (scale n ms) := by
  refine ⟨?_, fun p hp => ?_, fun p hp => ?_⟩
  · unfold scale
    rw [List.pairwise_map]
    exact h.up
  · obtain ⟨q, hq, rfl⟩ := List.mem_map.mp hp
    exact Int.mul_ne_zero (h.nz q hq) hn
  · obtain ⟨q, hq, rfl⟩ := List.mem_map.mp hp
    exact h.lt q hq
/-- what `made` makes, thing by thing -/
def madeF (ks : Ms) : D → Option D
  | .str s => if total ks s ≠ 0 then some (mpD (s, total ks s)) else none
  | _ => none
theorem madeF_all (ks : Ms) : ((sortS (ks.map (·.1))).map D.str).filterMap (madeF ks) = (madeM ks).map mpD := by
  unfold madeM
  rw [List.filterMap_map, List.map_filterMap]
  congr 1
  funext s
  simp only [Function.comp, madeF]
  split <;> rfl
theorem dget_in {ks : Ms} {s : Str} (h : s ∈ ks.map (·.1)) : dget (dkI ks) s = some (.int (total ks s)) := by
  obtain ⟨i, e⟩ := iget_some h
  rw [dget_dkI]
  unfold total
  rw [e]
  rfl
theorem getd_dkI (ks : Ms) (s : Str) : (dget (dkI ks) s).getD (.int 0) = .int (total ks s) := by
  rw [dget_dkI]
  unfold total
  cases iget ks s <;> rfl
theorem le_str (a b : Str) : cmpD .le (.str a) (.str b) = .ok (.bl (!strLt b a), .fz) := rfl
theorem pairs_ms : ∀ ms : Ms, (ms.map mpD).mapM asPair = some (dkI ms)
  | [] => rfl
  | p :: ms => by
    rw [List.map_cons, List.mapM_cons, pairs_ms ms]
    rfl
theorem dicOf_ms {ms : Ms} (n : (ms.map (·.1)).Nodup) : dicOf (dkI ms) = dkI ms := by
  have key : ∀ (rs acc : Ms), ((acc ++ rs).map (·.1)).Nodup → (dkI rs).foldl (fun a p => dput a p.1 p.2) (dkI acc) = dkI (acc ++ rs) := by
    intro rs
    induction rs with
    | nil => intro acc _; simp [dkI]
    | cons p rs ih =>
      intro acc h
      have e : acc ++ p :: rs = (acc ++ [p]) ++ rs := by simp
      have h1 : ((acc ++ [p]).map (·.1)).Nodup := by
        rw [e, List.map_append] at h
        exact (List.nodup_append.mp h).1
      have h2 := h1
      rw [List.map_append, List.nodup_append] at h2
      have o : p.1 ∉ acc.map (·.1) := fun z => h2.2.2 _ z p.1 (by simp) rfl
      show (dkI rs).foldl _ (dput (dkI acc) p.1 (.int p.2)) = _
      rw [dput_dkI _ _ h2.1, iput_new o, e]
      exact ih (acc ++ [p]) (by rw [← e]; exact h)
  exact key ms [] (by simpa using n)
/-! ### dicts with other things in them -/
def kfind {α : Type} : List (Str × α) → Str → Option α
  | [], _ => none
  | p :: ks, s => if p.1 = s then some p.2 else kfind ks s
def kput {α : Type} : List (Str × α) → Str → α → List (Str × α)
  | [], s, i => [(s, i)]
  | p :: ks, s, i => if p.1 = s then (p.1, i) :: ks else p :: kput ks s i
def dkF {α : Type} (f : α → D) (ks : List (Str × α)) : List (Str × D) := ks.map fun p => (p.1, f p.2)
section
variable {α : Type} {f : α → D}
theorem dkF_len (ks : List (Str × α)) : (dkF f ks).length = ks.length := by unfold dkF; rw [List.length_map]
theorem dget_dkF : ∀ (ks : List (Str × α)) (s : Str), dget (dkF f ks) s = (kfind ks s).map f
  | [], _ => rfl
  | p :: ks, s => by
    have ih := dget_dkF ks s
    unfold dget dkF at *
    unfold kfind
    rw [List.map_cons, List.find?_cons]
    by_cases h : p.1 = s
    · simp [h]
    · simp [h]; simpa using ih
theorem dput_dkF : ∀ {ks : List (Str × α)} (s : Str) (i : α), (ks.map (·.1)).Nodup → dput (dkF f ks) s (f i) = dkF f (kput ks s i)
  | [], _, _, _ => rfl
  | p :: ks, s, i, h => by
    rw [List.map_cons, List.nodup_cons] at h
    by_cases e : p.1 = s
    · unfold kput
      rw [if_pos e]
      unfold dput
      have o : s ∉ (dkF f ks).map (·.1) := by
        rw [← e]
        unfold dkF
        rw [List.map_map]
        exact h.1
      show (if ((p.1, f p.2) :: dkF f ks).any (fun q => decide (q.1 = s)) = true then ((p.1, f p.2) :: dkF f ks).map _ else _) = (p.1, f i) :: dkF f ks
      rw [List.any_cons, List.map_cons, dput_out o]
      simp [e]
    · unfold kput
      rw [if_neg e]
      show dput ((p.1, f p.2) :: dkF f ks) s (f i) = (p.1, f p.2) :: dkF f (kput ks s i)
      rw [dput_cons _ _ _ _ e, dput_dkF s i h.2]
theorem kput_mem : ∀ {ks : List (Str × α)} {s : Str} {i : α} {p : Str × α}, p ∈ kput ks s i → p = (s, i) ∨ p ∈ ks
  | [], s, i, p, h => by simp [kput] at h; exact .inl h
  | q :: ks, s, i, p, h => by
    unfold kput at h
    by_cases e : q.1 = s
    · rw [if_pos e] at h
      rcases List.mem_cons.mp h with h | h
      · exact .inl (by rw [h, e])
      · exact .inr (List.mem_cons_of_mem _ h)
    · rw [if_neg e] at h
      rcases List.mem_cons.mp h with h | h
      · exact .inr (by rw [h]; exact List.mem_cons_self)
      · exact (kput_mem h).imp id (List.mem_cons_of_mem _)
theorem kput_keys_sub : ∀ {ks : List (Str × α)} {s : Str} {i : α} {t : Str}, t ∈ (kput ks s i).map (·.1) → t = s ∨ t ∈ ks.map (·.1) := by
  intro ks s i t h
  obtain ⟨p, hp, rfl⟩ := List.mem_map.mp h
  rcases kput_mem hp with rfl | hp
  · exact .inl rfl
  · exact .inr (List.mem_map.mpr ⟨p, hp, rfl⟩)
theorem kput_nodup : ∀ {ks : List (Str × α)} (s : Str) (i : α), (ks.map (·.1)).Nodup → ((kput ks s i).map (·.1)).Nodup
  | [], _, _, _ => by simp [kput]
  | p :: ks, s, i, h => by
    unfold kput
    by_cases e : p.1 = s
    · rw [if_pos e]; exact h
    · rw [if_neg e]
      rw [List.map_cons, List.nodup_cons] at h ⊢
      exact ⟨fun z => (kput_keys_sub z).elim e h.1, kput_nodup s i h.2⟩
theorem kput_len : ∀ (ks : List (Str × α)) (s : Str) (i : α), (kput ks s i).length ≤ ks.length + 1
  | [], _, _ => Nat.le_refl _
  | p :: ks, s, i => by
    have ih := kput_len ks s i
    unfold kput
    split <;> simp <;> omega
theorem kfind_mem : ∀ {ks : List (Str × α)} {s : Str} {i : α}, kfind ks s = some i → (s, i) ∈ ks
  | [], _, _, h => by simp [kfind] at h
  | p :: ks, s, i, h => by
    unfold kfind at h
    by_cases e : p.1 = s
    · rw [if_pos e] at h
      cases h
      subst e
      exact List.mem_cons_self
    · rw [if_neg e] at h
      exact List.mem_cons_of_mem _ (kfind_mem h)
theorem kfind_of_mem : ∀ {ks : List (Str × α)} {s : Str} {i : α}, (ks.map (·.1)).Nodup → (s, i) ∈ ks → kfind ks s = some i
  | [], _, _, _, h => by simp at h
  | p :: ks, s, i, n, h => by
    rw [List.map_cons, List.nodup_cons] at n
    unfold kfind
    rcases List.mem_cons.mp h with e | h
    · subst e; exact if_pos rfl
    · rw [if_neg fun z => n.1 (by rw [z]; exact List.mem_map.mpr ⟨_, h, rfl⟩)]
      exact kfind_of_mem n.2 h
theorem sameK_self {ks : List (Str × α)} (n : (ks.map (·.1)).Nodup) (h : ∀ p ∈ ks, okD (f p.2) ∧ eqD (f p.2) (f p.2) = true) : sameK (dkF f ks) (dkF f ks) := by
  refine ⟨rfl, fun p hp => ?_⟩
  obtain ⟨q, hq, rfl⟩ := List.mem_map.mp hp
  obtain ⟨h1, h2⟩ := h q hq
  refine ⟨f q.2, ?_, h1, h1, h2⟩
  rw [dget_dkF, kfind_of_mem n (show (q.1, q.2) ∈ ks from hq)]
  rfl
end
/-! ### measures by their totals -/
theorem madeM_total {ks : Ms} (n : (ks.map (·.1)).Nodup) (l : ∀ s ∈ ks.map (·.1), Ltr s) (s : Str) : total (madeM ks) s = total ks s := by
  have m := madeM_meas n l
  by_cases z : total ks s = 0
  · rw [z]
    unfold total
    rw [iget_none]
    · rfl
    · intro h
      obtain ⟨p, hp, rfl⟩ := List.mem_map.mp h
      unfold madeM at hp
      obtain ⟨t, _, e⟩ := List.mem_filterMap.mp hp
      split at e
      · rename_i g
        cases e
        exact g z
      · cases e
  · have hk : s ∈ ks.map (·.1) := by
      by_cases h : s ∈ ks.map (·.1)
      · exact h
      · exfalso
        apply z
        unfold total
        rw [iget_none h]
        rfl
    have hm : (s, total ks s) ∈ madeM ks := by
      unfold madeM
      exact List.mem_filterMap.mpr ⟨s, (sortS_perm _).mem_iff.mpr hk, if_pos z⟩
    show (iget (madeM ks) s).getD 0 = _
    rw [iget_of_mem m.nodup hm]
    rfl
theorem meas_key {m : Ms} (h : Meas m) (s : Str) : s ∈ m.map (·.1) ↔ total m s ≠ 0 := by
  constructor
  · intro k
    obtain ⟨p, hp, rfl⟩ := List.mem_map.mp k
    unfold total
    rw [iget_of_mem h.nodup (show (p.1, p.2) ∈ m from hp)]
    exact h.nz p hp
  · intro k
    by_cases z : s ∈ m.map (·.1)
    · exact z
    · exfalso
      apply k
      unfold total
      rw [iget_none z]
      rfl
theorem meas_up {ms : Ms} (h : Meas ms) : Up (ms.map (·.1)) := by
  unfold Up
  rw [List.pairwise_map]
  refine h.up.imp fun {a b} q => ?_
  cases e : strLt b.1 a.1 with
  | false => rfl
  | true => have := strLt_trans q e; rw [strLt_irrefl] at this; cases this
theorem meas_ext {a b : Ms} (ha : Meas a) (hb : Meas b) (h : ∀ s, total a s = total b s) : a = b := by
  have pk : (a.map (·.1)).Perm (b.map (·.1)) := by
    rw [List.perm_ext_iff_of_nodup ha.nodup hb.nodup]
    intro s
    rw [meas_key ha, meas_key hb, h s]
  have ek : a.map (·.1) = b.map (·.1) := up_unique (meas_up ha) (meas_up hb) pk
  have of : ∀ {m : Ms}, Meas m → m = (m.map (·.1)).map fun s => (s, total m s) := by
    intro m hm
    rw [List.map_map]
    conv => lhs; rw [← List.map_id m]
    apply List.map_congr_left
    intro p hp
    have e : total m p.1 = p.2 := by unfold total; rw [iget_of_mem hm.nodup (show (p.1, p.2) ∈ m from hp)]; rfl
    simp only [Function.comp, e]
    rfl
  rw [of ha, of hb, ek]
  apply List.map_congr_left
  intro s _
  rw [h s]
theorem meas_nil : Meas [] := ⟨.nil, fun _ h => by simp at h, fun _ h => by simp at h⟩
/-! ### texts -/
/-- at most m signs, all of them plain -/
def Tx (m : Nat) (s : Str) : Prop := s.length ≤ m ∧ ∀ c ∈ s.cps.toList, c < 128
theorem app_list (a b : Str) : (a ++ b).cps.toList = a.cps.toList ++ b.cps.toList := by
  show (Str.append a b).cps.toList = _
  unfold Str.append
  simp
theorem app_len (a b : Str) : (a ++ b).length = a.length + b.length := by
  show (Str.append a b).cps.size = _
  unfold Str.append Str.length
  simp
theorem rep_len (s : Str) (n : Nat) : (strRep s n).length = n * s.length := by
  unfold strRep Str.length
  simp
theorem tx_app {m n : Nat} {a b : Str} (h1 : Tx m a) (h2 : Tx n b) : Tx (m + n) (a ++ b) := by
  refine ⟨by rw [app_len]; have := h1.1; have := h2.1; omega, fun c hc => ?_⟩
  rw [app_list, List.mem_append] at hc
  exact hc.elim (h1.2 c) (h2.2 c)
theorem tx_mono {m n : Nat} {a : Str} (h : Tx m a) (l : m ≤ n) : Tx n a := ⟨Nat.le_trans h.1 l, h.2⟩
theorem tx_one {c : Nat} (h : c < 128) : Tx 1 ⟨#[c]⟩ := ⟨Nat.le_refl _, fun d hd => by
  have : d = c := by simpa using hd
  omega⟩
theorem tx_rep {m : Nat} {s : Str} (h : Tx 1 s) {n : Nat} (hn : n ≤ m) : Tx m (strRep s n) := by
  refine ⟨?_, fun c hc => ?_⟩
  · rw [rep_len]
    have := Nat.mul_le_mul hn h.1
    omega
  · unfold strRep at hc
    rw [List.toList_toArray, List.mem_flatten] at hc
    obtain ⟨l, hl, hc⟩ := hc
    rw [List.mem_replicate] at hl
    rw [hl.2] at hc
    exact h.2 c hc
theorem some_pos {s : Str} (h : 0 < s.length) : strLt Str.empty s = true := by
  unfold strLt Str.empty Str.length at *
  apply decide_eq_true
  cases e : s.cps.toList with
  | nil =>
    have : s.cps.toList.length = 0 := by rw [e]; rfl
    rw [Array.length_toList] at this
    omega
  | cons a l => exact List.nil_lt_cons a l
theorem ltr_of {m : Nat} {s : Str} (h : Tx m s) (p : 0 < s.length) : Ltr s := by
  refine ⟨some_pos p, ?_⟩
  rw [PyData.canLay0]
  unfold PyData.strOk
  rw [Array.all_eq_true']
  intro c hc
  have := h.2 c (by simpa using hc)
  exact decide_eq_true (by omega)
def sg : Str := "abcdefghijklmnopqrstuvwxyz"
theorem sg_len : sg.length = 26 := by decide +kernel
theorem sg_at {i : Int} (h1 : 0 ≤ i) (h2 : i < 26) : ∃ c, atI sg.cps.toList i = some c ∧ c < 128 := by
  have hl : sg.cps.toList.length = 26 := sg_len
  have hn : i.toNat < sg.cps.toList.length := by omega
  refine ⟨sg.cps.toList[i.toNat], ?_, ?_⟩
  · unfold atI ixN
    rw [if_pos h1, if_pos (by omega)]
    exact List.getElem?_eq_getElem hn
  · have : ∀ c ∈ sg.cps.toList, c < 128 := by decide +kernel
    exact this _ (List.getElem_mem hn)
theorem atI_nat {α : Type} (xs : List α) (k : Nat) : atI xs (k : Int) = xs[k]? := by
  unfold atI ixN
  by_cases h : k < xs.length
  · rw [if_pos (by omega), if_pos (by omega)]
    rfl
  · rw [if_pos (by omega), if_neg (by omega), List.getElem?_eq_none (by omega)]
    rfl
theorem atI_in {α : Type} {xs : List α} {i : Int} (h1 : 0 ≤ i) (h2 : i < xs.length) : ∃ x, atI xs i = some x ∧ x ∈ xs := by
  have hn : i.toNat < xs.length := by omega
  refine ⟨xs[i.toNat], ?_, List.getElem_mem hn⟩
  unfold atI ixN
  rw [if_pos h1, if_pos h2]
  exact List.getElem?_eq_getElem hn
end MP

namespace MP
open PySem PySem.Spec PyProof.Rows L2
/-! ### texts compared -/
abbrev OkS (s : Str) : Prop := PyData.canLay0 (.str s) = true
theorem okD_str {s : Str} (h : OkS s) : okD (.str s) = True := by
  apply eq_true
  unfold okD SeqAt.shaped
  rw [toPy, Bool.and_eq_true]
  exact ⟨h, by rw [PyData.depth]; rfl⟩
theorem eqD_str (a b : Str) : eqD (.str a) (.str b) = decide (a = b) := by
  unfold eqD
  simp only [toPy, PyData.eqv]
  by_cases h : a = b <;> simp [h]
theorem cmp_eqS {a b : Str} (ha : OkS a) (hb : OkS b) : cmpD .eq (.str a) (.str b) = .ok (.bl (decide (a = b)), .fz) := by
  rw [cmpD.eq_1, okD_str ha, okD_str hb, eqD_str, grd_pos ⟨trivial, trivial⟩]
theorem cmp_neS {a b : Str} (ha : OkS a) (hb : OkS b) : cmpD .ne (.str a) (.str b) = .ok (.bl (!decide (a = b)), .fz) := by
  rw [cmpD.eq_2, okD_str ha, okD_str hb, eqD_str, grd_pos ⟨trivial, trivial⟩]
theorem kS {a b : Str} {c : Bool} (h : (PyData.canLay0 (.str a) && PyData.canLay0 (.str b) && (decide (a = b) == c)) = true) : cmpD .eq (.str a) (.str b) = .ok (.bl c, .fz) := by
  simp only [Bool.and_eq_true, beq_iff_eq] at h
  rw [cmp_eqS h.1.1 h.1.2, h.2]
theorem in_tupS {a : Str} {l : List Str} (ha : OkS a) (hl : ∀ s ∈ l, OkS s) : inD (.str a) (.tup (l.map .str)) = .ok (l.any fun z => decide (z = a)) := by
  have g : okD (.tup (l.map .str)) := by
    unfold okD SeqAt.shaped
    rw [toPy, Bool.and_eq_true]
    constructor
    · rw [PyData.canLay0]
      induction l with
      | nil => rfl
      | cons s l ih =>
        simp only [List.map_cons, toPys, toPy, PyData.canLayAll0, Bool.and_eq_true]
        exact ⟨hl s List.mem_cons_self, ih fun t ht => hl t (List.mem_cons_of_mem _ ht)⟩
    · have : PyData.depthAll (toPys (l.map .str)) = 0 := by
        clear hl
        induction l with
        | nil => rfl
        | cons s l ih => simp only [List.map_cons, toPys, toPy, PyData.depthAll, PyData.depth, ih]; rfl
      rw [PyData.depth, this]
      rfl
  have e : inD (.str a) (.tup (l.map .str)) = grd (okD (.str a) ∧ okD (.tup (l.map .str))) (.ok ((l.map D.str).any fun z => eqD z (.str a))) := by rw [inD]
  rw [e, grd_pos ⟨by rw [okD_str ha]; trivial, g⟩, List.any_map]
  refine congrArg R.ok (congrArg (fun f => List.any l f) ?_)
  funext z
  exact eqD_str z a
/-! ### places -/
theorem at_0 {α : Type} (a : α) (xs : List α) : atI (a :: xs) 0 = some a := atI_nat _ 0
theorem at_1 {α : Type} (a b : α) (xs : List α) : atI (a :: b :: xs) 1 = some b := atI_nat _ 1
theorem at_2 {α : Type} (a b c : α) (xs : List α) : atI (a :: b :: c :: xs) 2 = some c := atI_nat _ 2
theorem at_3 {α : Type} (a b c d : α) (xs : List α) : atI (a :: b :: c :: d :: xs) 3 = some d := atI_nat _ 3
theorem at_4 {α : Type} (a b c d e : α) (xs : List α) : atI (a :: b :: c :: d :: e :: xs) 4 = some e := atI_nat _ 4
theorem cut_from {α : Type} (xs : List α) (n : Nat) (h : n ≤ xs.length) : cutL xs (some (n : Int)) none = xs.drop n := by
  have e2 : HT.sIx xs.length 0 (some (n : Int)) = n := by rw [HT.sIx_nat]; omega
  have e : HT.sIx xs.length xs.length none = xs.length := by unfold HT.sIx; simp
  unfold cutL
  rw [e, e2, List.take_of_length_le (by rw [List.length_drop]; exact Nat.le_refl _)]
theorem cut_1 {α : Type} (a : α) (xs : List α) : cutL (a :: xs) (some 1) none = xs := cut_from (a :: xs) 1 (by simp)
/-! ### rising texts, each once -/
def sinS (l : List Str) : List Str := sortS (setS l)
theorem setS_aux : ∀ (l acc : List Str), acc.Nodup → (l.foldl (fun acc x => if x ∈ acc then acc else x :: acc) acc).Nodup ∧ ∀ s, s ∈ l.foldl (fun acc x => if x ∈ acc then acc else x :: acc) acc ↔ s ∈ acc ∨ s ∈ l
  | [], acc, n => ⟨n, fun s => by simp⟩
  | x :: l, acc, n => by
    rw [List.foldl_cons]
    by_cases h : x ∈ acc
    · rw [if_pos h]
      obtain ⟨h1, h2⟩ := setS_aux l acc n
      refine ⟨h1, fun s => ?_⟩
      rw [h2, List.mem_cons]
      constructor
      · rintro (z | z)
        · exact .inl z
        · exact .inr (.inr z)
      · rintro (z | rfl | z)
        · exact .inl z
        · exact .inl h
        · exact .inr z
    · rw [if_neg h]
      obtain ⟨h1, h2⟩ := setS_aux l (x :: acc) (List.nodup_cons.mpr ⟨h, n⟩)
      refine ⟨h1, fun s => ?_⟩
      rw [h2, List.mem_cons, List.mem_cons]
      constructor
      · rintro ((z | z) | z)
        · exact .inr (.inl z)
        · exact .inl z
        · exact .inr (.inr z)
      · rintro (z | z | z)
        · exact .inl (.inr z)
        · exact .inl (.inl z)
        · exact .inr z
theorem sinS_nodup (l : List Str) : (sinS l).Nodup := (sortS_perm _).nodup_iff.mpr (setS_aux l [] List.nodup_nil).1
theorem sinS_mem {l : List Str} {s : Str} : s ∈ sinS l ↔ s ∈ l := by
  unfold sinS
  rw [(sortS_perm _).mem_iff]
  unfold setS
  rw [(setS_aux l [] List.nodup_nil).2]
  simp
theorem sinS_same {a b : List Str} (h : ∀ s, s ∈ a ↔ s ∈ b) : sinS a = sinS b :=
  up_unique (sortS_up _) (sortS_up _) ((List.perm_ext_iff_of_nodup (sinS_nodup a) (sinS_nodup b)).mpr fun s => by rw [sinS_mem, sinS_mem]; exact h s)
theorem setS_len (l : List Str) : ∀ acc : List Str, (l.foldl (fun acc x => if x ∈ acc then acc else x :: acc) acc).length ≤ acc.length + l.length := by
  induction l with
  | nil => intro acc; simp
  | cons x l ih =>
    intro acc
    rw [List.foldl_cons]
    by_cases h : x ∈ acc
    · rw [if_pos h]; have := ih acc; simp only [List.length_cons]; omega
    · rw [if_neg h]; have := ih (x :: acc); simp only [List.length_cons] at this ⊢; omega
theorem sinS_len (l : List Str) : (sinS l).length ≤ l.length := by
  unfold sinS
  rw [sortS_length]
  have := setS_len l []
  simpa [setS] using this
theorem mapM_strl (l : List Str) : (l.map D.str).mapM asStr = some l := by
  induction l with
  | nil => rfl
  | cons x l ih => rw [List.map_cons, List.mapM_cons, ih]; rfl
theorem mapM_str0 : ([] : List D).mapM asStr = some [] := rfl
/-! ### reckonings -/
inductive Bk where
  | plus | minus | times | over
deriving DecidableEq
def Bk.s : Bk → Str
  | .plus => "plus"
  | .minus => "minus"
  | .times => "times"
  | .over => "over"
inductive Rk where
  | is (p : Int × Int) (m : Ms) | nought | input (s : Str) | pw (a : Rk) (n : Int) | bin (o : Bk) (a b : Rk) | less (a b c d : Rk)
def qD (p : Int × Int) : D := .tup [.int p.1, .int p.2]
def Rk.d : Rk → D
  | .is p m => .tup [.str "is", qD p, msD m]
  | .nought => .tup [.str "nought"]
  | .input s => .tup [.str "input", .str s]
  | .pw a n => .tup [.str "power", a.d, .int n]
  | .bin o a b => .tup [.str o.s, a.d, b.d]
  | .less a b c e => .tup [.str "less", a.d, b.d, c.d, e.d]
def Rk.parts : Rk → List Rk
  | .is _ _ => []
  | .nought => []
  | .input _ => []
  | .pw a _ => [a]
  | .bin _ a b => [a, b]
  | .less a b c e => [a, b, c, e]
def Rk.nn : Rk → Nat
  | .is _ _ => 0
  | .nought => 1
  | .input _ => 0
  | .pw a _ => a.nn
  | .bin _ a b => a.nn + b.nn
  | .less a b c e => a.nn + b.nn + c.nn + e.nn
def Rk.ins : Rk → List Str
  | .is _ _ => []
  | .nought => []
  | .input s => [s]
  | .pw a _ => a.ins
  | .bin _ a b => a.ins ++ b.ins
  | .less a b c e => a.ins ++ b.ins ++ c.ins ++ e.ins
def Rk.ht : Rk → Nat
  | .is _ _ => 0
  | .nought => 0
  | .input _ => 0
  | .pw a _ => a.ht + 1
  | .bin _ a b => max a.ht b.ht + 1
  | .less a b c e => max (max a.ht b.ht) (max c.ht e.ht) + 1
/-- how many powers stand within one another -/
def Rk.pws : Rk → Nat
  | .is _ _ => 0
  | .nought => 0
  | .input _ => 0
  | .pw a _ => a.pws + 1
  | .bin _ a b => max a.pws b.pws
  | .less a b c e => max (max a.pws b.pws) (max c.pws e.pws)
def Rk.size : Rk → Nat
  | .is _ _ => 1
  | .nought => 1
  | .input _ => 1
  | .pw a _ => a.size + 1
  | .bin _ a b => a.size + b.size + 1
  | .less a b c e => a.size + b.size + c.size + e.size + 1
theorem Rk.nn_size : ∀ r : Rk, r.nn ≤ r.size
  | .is _ _ => by simp [nn, size]
  | .nought => by simp [nn, size]
  | .input _ => by simp [nn, size]
  | .pw a _ => by have := a.nn_size; simp only [nn, size]; omega
  | .bin _ a b => by have := a.nn_size; have := b.nn_size; simp only [nn, size]; omega
  | .less a b c e => by have := a.nn_size; have := b.nn_size; have := c.nn_size; have := e.nn_size; simp only [nn, size]; omega
theorem Rk.ins_size : ∀ r : Rk, r.ins.length ≤ r.size
  | .is _ _ => by simp [ins, size]
  | .nought => by simp [ins, size]
  | .input _ => by simp [ins, size]
  | .pw a _ => by have := a.ins_size; simp only [ins, size]; omega
  | .bin _ a b => by have := a.ins_size; have := b.ins_size; simp only [ins, size, List.length_append]; omega
  | .less a b c e => by have := a.ins_size; have := b.ins_size; have := c.ins_size; have := e.ins_size; simp only [ins, size, List.length_append]; omega
/-- kinds compared with a literal -/
theorem k_is_is : cmpD .eq (.str "is") (.str "is") = .ok (.bl true, .fz) := kS (by decide +kernel)
theorem k_is_nought : cmpD .eq (.str "is") (.str "nought") = .ok (.bl false, .fz) := kS (by decide +kernel)
theorem k_is_input : cmpD .eq (.str "is") (.str "input") = .ok (.bl false, .fz) := kS (by decide +kernel)
theorem k_is_power : cmpD .eq (.str "is") (.str "power") = .ok (.bl false, .fz) := kS (by decide +kernel)
theorem k_is_less : cmpD .eq (.str "is") (.str "less") = .ok (.bl false, .fz) := kS (by decide +kernel)
theorem k_is_plus : cmpD .eq (.str "is") (.str "plus") = .ok (.bl false, .fz) := kS (by decide +kernel)
theorem k_is_minus : cmpD .eq (.str "is") (.str "minus") = .ok (.bl false, .fz) := kS (by decide +kernel)
theorem k_is_times : cmpD .eq (.str "is") (.str "times") = .ok (.bl false, .fz) := kS (by decide +kernel)
theorem k_is_over : cmpD .eq (.str "is") (.str "over") = .ok (.bl false, .fz) := kS (by decide +kernel)
theorem ki_is : inD (.str "is") (.tup [.str "is", .str "input"]) = .ok true := (in_tupS (l := ["is", "input"]) (by decide +kernel) (by decide +kernel)).trans (congrArg R.ok (by decide +kernel))
theorem k_nought_is : cmpD .eq (.str "nought") (.str "is") = .ok (.bl false, .fz) := kS (by decide +kernel)
theorem k_nought_nought : cmpD .eq (.str "nought") (.str "nought") = .ok (.bl true, .fz) := kS (by decide +kernel)
theorem k_nought_input : cmpD .eq (.str "nought") (.str "input") = .ok (.bl false, .fz) := kS (by decide +kernel)
theorem k_nought_power : cmpD .eq (.str "nought") (.str "power") = .ok (.bl false, .fz) := kS (by decide +kernel)
theorem k_nought_less : cmpD .eq (.str "nought") (.str "less") = .ok (.bl false, .fz) := kS (by decide +kernel)
theorem k_nought_plus : cmpD .eq (.str "nought") (.str "plus") = .ok (.bl false, .fz) := kS (by decide +kernel)
theorem k_nought_minus : cmpD .eq (.str "nought") (.str "minus") = .ok (.bl false, .fz) := kS (by decide +kernel)
theorem k_nought_times : cmpD .eq (.str "nought") (.str "times") = .ok (.bl false, .fz) := kS (by decide +kernel)
theorem k_nought_over : cmpD .eq (.str "nought") (.str "over") = .ok (.bl false, .fz) := kS (by decide +kernel)
theorem ki_nought : inD (.str "nought") (.tup [.str "is", .str "input"]) = .ok false := (in_tupS (l := ["is", "input"]) (by decide +kernel) (by decide +kernel)).trans (congrArg R.ok (by decide +kernel))
theorem k_input_is : cmpD .eq (.str "input") (.str "is") = .ok (.bl false, .fz) := kS (by decide +kernel)
theorem k_input_nought : cmpD .eq (.str "input") (.str "nought") = .ok (.bl false, .fz) := kS (by decide +kernel)
theorem k_input_input : cmpD .eq (.str "input") (.str "input") = .ok (.bl true, .fz) := kS (by decide +kernel)
theorem k_input_power : cmpD .eq (.str "input") (.str "power") = .ok (.bl false, .fz) := kS (by decide +kernel)
theorem k_input_less : cmpD .eq (.str "input") (.str "less") = .ok (.bl false, .fz) := kS (by decide +kernel)
theorem k_input_plus : cmpD .eq (.str "input") (.str "plus") = .ok (.bl false, .fz) := kS (by decide +kernel)
theorem k_input_minus : cmpD .eq (.str "input") (.str "minus") = .ok (.bl false, .fz) := kS (by decide +kernel)
theorem k_input_times : cmpD .eq (.str "input") (.str "times") = .ok (.bl false, .fz) := kS (by decide +kernel)
theorem k_input_over : cmpD .eq (.str "input") (.str "over") = .ok (.bl false, .fz) := kS (by decide +kernel)
theorem ki_input : inD (.str "input") (.tup [.str "is", .str "input"]) = .ok true := (in_tupS (l := ["is", "input"]) (by decide +kernel) (by decide +kernel)).trans (congrArg R.ok (by decide +kernel))
theorem k_power_is : cmpD .eq (.str "power") (.str "is") = .ok (.bl false, .fz) := kS (by decide +kernel)
theorem k_power_nought : cmpD .eq (.str "power") (.str "nought") = .ok (.bl false, .fz) := kS (by decide +kernel)
theorem k_power_input : cmpD .eq (.str "power") (.str "input") = .ok (.bl false, .fz) := kS (by decide +kernel)
theorem k_power_power : cmpD .eq (.str "power") (.str "power") = .ok (.bl true, .fz) := kS (by decide +kernel)
theorem k_power_less : cmpD .eq (.str "power") (.str "less") = .ok (.bl false, .fz) := kS (by decide +kernel)
theorem k_power_plus : cmpD .eq (.str "power") (.str "plus") = .ok (.bl false, .fz) := kS (by decide +kernel)
theorem k_power_minus : cmpD .eq (.str "power") (.str "minus") = .ok (.bl false, .fz) := kS (by decide +kernel)
theorem k_power_times : cmpD .eq (.str "power") (.str "times") = .ok (.bl false, .fz) := kS (by decide +kernel)
theorem k_power_over : cmpD .eq (.str "power") (.str "over") = .ok (.bl false, .fz) := kS (by decide +kernel)
theorem ki_power : inD (.str "power") (.tup [.str "is", .str "input"]) = .ok false := (in_tupS (l := ["is", "input"]) (by decide +kernel) (by decide +kernel)).trans (congrArg R.ok (by decide +kernel))
theorem k_less_is : cmpD .eq (.str "less") (.str "is") = .ok (.bl false, .fz) := kS (by decide +kernel)
theorem k_less_nought : cmpD .eq (.str "less") (.str "nought") = .ok (.bl false, .fz) := kS (by decide +kernel)
theorem k_less_input : cmpD .eq (.str "less") (.str "input") = .ok (.bl false, .fz) := kS (by decide +kernel)
theorem k_less_power : cmpD .eq (.str "less") (.str "power") = .ok (.bl false, .fz) := kS (by decide +kernel)
theorem k_less_less : cmpD .eq (.str "less") (.str "less") = .ok (.bl true, .fz) := kS (by decide +kernel)
theorem k_less_plus : cmpD .eq (.str "less") (.str "plus") = .ok (.bl false, .fz) := kS (by decide +kernel)
theorem k_less_minus : cmpD .eq (.str "less") (.str "minus") = .ok (.bl false, .fz) := kS (by decide +kernel)
theorem k_less_times : cmpD .eq (.str "less") (.str "times") = .ok (.bl false, .fz) := kS (by decide +kernel)
theorem k_less_over : cmpD .eq (.str "less") (.str "over") = .ok (.bl false, .fz) := kS (by decide +kernel)
theorem ki_less : inD (.str "less") (.tup [.str "is", .str "input"]) = .ok false := (in_tupS (l := ["is", "input"]) (by decide +kernel) (by decide +kernel)).trans (congrArg R.ok (by decide +kernel))
theorem ko_is (o : Bk) : cmpD .eq (.str o.s) (.str "is") = .ok (.bl (false), .fz) := by cases o <;> exact kS (by decide +kernel)
theorem ko_nought (o : Bk) : cmpD .eq (.str o.s) (.str "nought") = .ok (.bl (false), .fz) := by cases o <;> exact kS (by decide +kernel)
theorem ko_input (o : Bk) : cmpD .eq (.str o.s) (.str "input") = .ok (.bl (false), .fz) := by cases o <;> exact kS (by decide +kernel)
theorem ko_power (o : Bk) : cmpD .eq (.str o.s) (.str "power") = .ok (.bl (false), .fz) := by cases o <;> exact kS (by decide +kernel)
theorem ko_less (o : Bk) : cmpD .eq (.str o.s) (.str "less") = .ok (.bl (false), .fz) := by cases o <;> exact kS (by decide +kernel)
theorem ko_plus (o : Bk) : cmpD .eq (.str o.s) (.str "plus") = .ok (.bl (decide (o = .plus)), .fz) := by cases o <;> exact kS (by decide +kernel)
theorem ko_minus (o : Bk) : cmpD .eq (.str o.s) (.str "minus") = .ok (.bl (decide (o = .minus)), .fz) := by cases o <;> exact kS (by decide +kernel)
theorem ko_times (o : Bk) : cmpD .eq (.str o.s) (.str "times") = .ok (.bl (decide (o = .times)), .fz) := by cases o <;> exact kS (by decide +kernel)
theorem ko_over (o : Bk) : cmpD .eq (.str o.s) (.str "over") = .ok (.bl (decide (o = .over)), .fz) := by cases o <;> exact kS (by decide +kernel)
theorem ki_o (o : Bk) : inD (.str o.s) (.tup [.str "is", .str "input"]) = .ok false := by
  cases o <;> exact (in_tupS (l := ["is", "input"]) (by decide +kernel) (by decide +kernel)).trans (congrArg R.ok (by decide +kernel))
theorem cmp_eqI (a b : Int) : cmpD .eq (.int a) (.int b) = .ok (.bl (decide (a = b)), .fz) := by rw [cmpD.eq_1, okD_int, okD_int, eqD_int, grd_pos ⟨trivial, trivial⟩]
theorem cmp_neI (a b : Int) : cmpD .ne (.int a) (.int b) = .ok (.bl (!decide (a = b)), .fz) := by rw [cmpD.eq_2, okD_int, okD_int, eqD_int, grd_pos ⟨trivial, trivial⟩]
/-! ### measures that stay small -/
structure Bm (l : Nat) (c : Int) (ms : Ms) : Prop where
  m : Meas ms
  len : ms.length ≤ l
  bd : ∀ p ∈ ms, -c ≤ p.2 ∧ p.2 ≤ c
def powM (n : Int) (ms : Ms) : Ms := if n = 0 then [] else scale n ms
def timM (a b : Ms) : Ms := madeM (addM a b)
def ovM (a b : Ms) : Ms := madeM (addM a (scale (-1) b))
theorem madeM_len (ks : Ms) : (madeM ks).length ≤ ks.length := by
  unfold madeM
  refine Nat.le_trans (List.length_filterMap_le _ _) ?_
  rw [sortS_length, List.length_map]
  exact Nat.le_refl _
theorem madeM_mem {ks : Ms} {p : Str × Int} (h : p ∈ madeM ks) : p ∈ ks := by
  unfold madeM at h
  obtain ⟨s, hs, e⟩ := List.mem_filterMap.mp h
  split at e
  · cases e
    obtain ⟨i, hi⟩ := iget_some ((sortS_perm _).mem_iff.mp hs)
    have := iget_mem hi
    unfold total
    rw [hi]
    exact this
  · cases e
theorem iput_mem : ∀ {ks : Ms} {s : Str} {i : Int} {p : Str × Int}, p ∈ iput ks s i → p = (s, i) ∨ p ∈ ks
  | [], s, i, p, h => by simp [iput] at h; exact .inl h
  | q :: ks, s, i, p, h => by
    unfold iput at h
    by_cases e : q.1 = s
    · rw [if_pos e] at h
      rcases List.mem_cons.mp h with h | h
      · exact .inl (by rw [h, e])
      · exact .inr (List.mem_cons_of_mem _ h)
    · rw [if_neg e] at h
      rcases List.mem_cons.mp h with h | h
      · exact .inr (by rw [h]; exact List.mem_cons_self)
      · exact (iput_mem h).imp id (List.mem_cons_of_mem _)
theorem total_bd {m : Ms} {c : Int} (hc : 0 ≤ c) (h : ∀ p ∈ m, -c ≤ p.2 ∧ p.2 ≤ c) (s : Str) : -c ≤ total m s ∧ total m s ≤ c := by
  unfold total
  cases e : iget m s with
  | none => constructor <;> simp <;> omega
  | some i => exact h _ (iget_mem e)
theorem addM_ltr {a b : Ms} (ha : ∀ s ∈ a.map (·.1), Ltr s) (hb : ∀ s ∈ b.map (·.1), Ltr s) : ∀ s ∈ (addM a b).map (·.1), Ltr s := fun s hs =>
  ((addM_keys _ _ _).mp hs).elim (ha s) (hb s)
theorem Meas.ltrs {m : Ms} (h : Meas m) : ∀ s ∈ m.map (·.1), Ltr s := fun s hs => by
  obtain ⟨p, hp, rfl⟩ := List.mem_map.mp hs
  exact h.lt p hp
theorem add_bm {a b : Ms} {l1 l2 : Nat} {c1 c2 : Int} (h1 : Bm l1 c1 a) (n2 : (b.map (·.1)).Nodup) (t2 : ∀ s ∈ b.map (·.1), Ltr s) (l2' : b.length ≤ l2) (b2 : ∀ p ∈ b, -c2 ≤ p.2 ∧ p.2 ≤ c2) (hc1 : 0 ≤ c1) (hc2 : 0 ≤ c2) : Bm (l1 + l2) (c1 + c2) (madeM (addM a b)) := by
  have nn : ((addM a b).map (·.1)).Nodup := addM_nodup h1.m.nodup
  have ll := addM_ltr h1.m.ltrs t2
  refine ⟨madeM_meas nn ll, ?_, ?_⟩
  · have := madeM_len (addM a b)
    have := addM_len b a
    have := h1.len
    omega
  · intro p hp
    have hm := madeM_mem hp
    have e : total (addM a b) p.1 = p.2 := by unfold total; rw [iget_of_mem nn (show (p.1, p.2) ∈ _ from hm)]; rfl
    rw [← e, addM_total _ _ _ n2]
    have := total_bd hc1 h1.bd p.1
    have := total_bd hc2 b2 p.1
    omega
theorem timM_bm {a b : Ms} {l1 l2 : Nat} {c1 c2 : Int} (h1 : Bm l1 c1 a) (h2 : Bm l2 c2 b) (hc1 : 0 ≤ c1) (hc2 : 0 ≤ c2) : Bm (l1 + l2) (c1 + c2) (timM a b) := add_bm h1 h2.m.nodup h2.m.ltrs h2.len h2.bd hc1 hc2
theorem ovM_bm {a b : Ms} {l1 l2 : Nat} {c1 c2 : Int} (h1 : Bm l1 c1 a) (h2 : Bm l2 c2 b) (hc1 : 0 ≤ c1) (hc2 : 0 ≤ c2) : Bm (l1 + l2) (c1 + c2) (ovM a b) := by
  refine add_bm h1 (by rw [scale_keys]; exact h2.m.nodup) (by rw [scale_keys]; exact h2.m.ltrs) (by unfold scale; rw [List.length_map]; exact h2.len) ?_ hc1 hc2
  intro p hp
  obtain ⟨r, hr, rfl⟩ := List.mem_map.mp hp
  have := h2.bd r hr
  show -c2 ≤ r.2 * -1 ∧ r.2 * -1 ≤ c2
  omega
theorem powM_meas {one : Ms} {n : Int} (h : Meas one) : Meas (powM n one) := by
  unfold powM
  by_cases z : n = 0
  · rw [if_pos z]; exact meas_nil
  · rw [if_neg z]; exact scale_meas h z
theorem num_tx {i : Int} (h1 : 0 ≤ i) (h2 : i < 10 ^ 20) : Tx 20 (Str.ofString (toString i)) ∧ 0 < (Str.ofString (toString i)).length := by
  have hl := toString_length_le h1 (k := 20) (by decide) h2
  obtain ⟨m, rfl⟩ := Int.eq_ofNat_of_zero_le h1
  have e := PySem.W.KIN.signs_num m
  refine ⟨⟨hl, fun c hc => ?_⟩, ?_⟩
  · rw [e] at hc
    obtain ⟨ch, hch, rfl⟩ := List.mem_map.mp hc
    have r := Nat.isDigit_of_mem_toDigits (by decide) (by decide) hch
    have : ch.toNat ≤ 57 := by
      unfold Char.isDigit at r
      simp only [Bool.and_eq_true, decide_eq_true_eq] at r
      exact r.2
    omega
  · have : (Str.ofString (toString ((m : Nat) : Int))).cps.toList.length = (Str.ofString (toString ((m : Nat) : Int))).length := Array.length_toList
    rw [← this, e, List.length_map]
    have h := Nat.length_toDigits_pos (b := 10) (n := m)
    omega
theorem at2 {α : Type} {a b : α} {i : Int} (h1 : 0 ≤ i) (h2 : i < 2) : ∃ x, atI [a, b] i = some x ∧ (x = a ∨ x = b) := by
  have : i = 0 ∨ i = 1 := by omega
  rcases this with rfl | rfl
  · exact ⟨a, rfl, .inl rfl⟩
  · exact ⟨b, rfl, .inr rfl⟩
theorem at3 {α : Type} {a b c : α} {i : Int} (h1 : 0 ≤ i) (h2 : i < 3) : ∃ x, atI [a, b, c] i = some x ∧ (x = a ∨ x = b ∨ x = c) := by
  have : i = 0 ∨ i = 1 ∨ i = 2 := by omega
  rcases this with rfl | rfl | rfl
  · exact ⟨a, rfl, .inl rfl⟩
  · exact ⟨b, rfl, .inr (.inl rfl)⟩
  · exact ⟨c, rfl, .inr (.inr rfl)⟩
theorem tx_lit {s : Str} (h : (decide (s.length ≤ 1) && s.cps.toList.all fun c => decide (c < 128)) = true) : Tx 1 s := by
  rw [Bool.and_eq_true] at h
  exact ⟨of_decide_eq_true h.1, fun c hc => of_decide_eq_true (List.all_eq_true.mp h.2 c hc)⟩
theorem ms_lay : ∀ {ms : Ms}, (∀ p ∈ ms, Ltr p.1) → PyData.canLayAll0 (toPys (ms.map mpD)) = true
  | [], _ => by simp [toPys, PyData.canLayAll0]
  | p :: ms, h => by
    have ih := ms_lay (ms := ms) fun q hq => h q (List.mem_cons_of_mem _ hq)
    have hp := (h p List.mem_cons_self).2
    simp only [List.map_cons, mpD, toPys, toPy, PyData.canLayAll0, PyData.canLay0, Bool.and_true, Bool.and_eq_true] at ih hp ⊢
    exact ⟨hp, ih⟩
theorem ms_eqv : ∀ ms : Ms, PyData.eqvAll (toPys (ms.map mpD)) (toPys (ms.map mpD)) = true
  | [] => by simp [toPys, PyData.eqvAll]
  | p :: ms => by
    have ih := ms_eqv ms
    simp only [List.map_cons, mpD, toPys, toPy, PyData.eqvAll, PyData.eqv, Bool.and_true, beq_self_eq_true, Bool.true_and, Bool.and_eq_true] at ih ⊢
    exact ih
theorem eqD_ms (ms : Ms) : eqD (msD ms) (msD ms) = true := by
  unfold eqD msD
  simp only [toPy, PyData.eqv]
  exact ms_eqv ms
theorem depth_ms : ∀ ms : Ms, PyData.depth (.tuple (toPys (ms.map mpD))) ≤ 64 := by
  intro ms
  have key : ∀ ms : Ms, PyData.depthAll (toPys (ms.map mpD)) ≤ 1 := by
    intro ms
    induction ms with
    | nil => simp [toPys, PyData.depthAll]
    | cons p ms ih =>
      simp only [List.map_cons, mpD, toPys, toPy, PyData.depthAll, PyData.depth] at ih ⊢
      omega
  have := key ms
  simp only [PyData.depth]
  omega
theorem okD_ms {ms : Ms} (h : Meas ms) : okD (msD ms) = True := by
  apply eq_true
  unfold okD msD SeqAt.shaped
  rw [Bool.and_eq_true]
  refine ⟨?_, ?_⟩
  · rw [toPy, PyData.canLay0]
    exact ms_lay h.lt
  · rw [toPy]
    exact decide_eq_true (depth_ms ms)
theorem add_nil_eq {one : Ms} (h : Meas one) : addM [] one = one := by rw [addM_nil h.nodup (by simp), List.nil_append]
theorem due_nil {one : Ms} {n : Int} (h : Meas one) : madeM (addM (addM [] []) (scale n one)) = powM n one := by
  have e : addM [] [] = [] := rfl
  rw [e, addM_nil (by rw [scale_keys]; exact h.nodup) (by simp), List.nil_append]
  unfold powM
  by_cases z : n = 0
  · rw [if_pos z]
    refine madeM_zero fun s => ?_
    rw [scale_total, z, Int.mul_zero]
  · rw [if_neg z]
    exact madeM_of (scale_meas h z)
theorem over_same {one : Ms} (h : Meas one) : madeM (addM one (scale (-1) one)) = [] := by
  refine madeM_zero fun s => ?_
  rw [addM_total _ _ _ (by rw [scale_keys]; exact h.nodup), scale_total]
  omega
theorem made_add {one other : Ms} {n : Int} (h : Meas one) (h2 : Meas other) : Meas (madeM (addM one (scale n other))) := by
  refine madeM_meas (addM_nodup h.nodup) fun s hs => ?_
  rcases (addM_keys _ _ _).mp hs with hs | hs
  · obtain ⟨p, hp, rfl⟩ := List.mem_map.mp hs
    exact h.lt p hp
  · rw [scale_keys] at hs
    obtain ⟨p, hp, rfl⟩ := List.mem_map.mp hs
    exact h2.lt p hp
theorem times_nil {one : Ms} (h : Meas one) : madeM (addM one []) = one := madeM_of h
theorem gcd_step (a b : Nat) : Nat.gcd b (a % b) = Nat.gcd a b := by
  rw [Nat.gcd_comm a b, Nat.gcd_rec b a, Nat.gcd_comm]
theorem while_gcd {c : SD → R Bool} {body : SD → R Fl} {fg : List Nat} {h : Nat → Nat → SD} (hc : ∀ a b : Nat, c (h a b) = .ok (decide (b ≠ 0)))
    (hb : ∀ a b : Nat, b ≠ 0 → ∃ σ', body (h a b) = .ok (.next σ') ∧ wipeD σ' fg = h b (a % b)) (hw : ∀ a b, wipeD (h a b) fg = h a b) :
    ∀ (n a b : Nat), b < n → exWhile c body fg n (h a b) = .ok (.next (h (Nat.gcd a b) 0))
  | 0, _, _, l => absurd l (Nat.not_lt_zero _)
  | n + 1, a, b, l => by
    simp only [exWhile, hc, MP.R.bind_ok]
    by_cases z : b = 0
    · subst z
      simp only [ne_eq, not_true_eq_false, decide_false, Bool.false_eq_true, if_false, hw, Nat.gcd_zero_right]
    · obtain ⟨σ', e1, e2⟩ := hb a b z
      simp only [ne_eq, z, not_false_eq_true, decide_true, if_true, e1, MP.R.bind_ok, e2]
      rw [while_gcd hc hb hw n b (a % b) (by have := Nat.mod_lt a (Nat.pos_of_ne_zero z); omega), gcd_step]
theorem while_gcdG {c : SD → R Bool} {body : SD → R Fl} {fg : List Nat} {n : Nat} {σ : SD} {X : R Fl} (hX : exWhile c body fg n σ = X) (h : Nat → Nat → SD) (a b : Nat) (hs : σ = h a b) (l : b < n) (hc : ∀ a b : Nat, c (h a b) = .ok (decide (b ≠ 0)))
    (hb : ∀ a b : Nat, b ≠ 0 → ∃ σ', body (h a b) = .ok (.next σ') ∧ wipeD σ' fg = h b (a % b)) (hw : ∀ a b, wipeD (h a b) fg = h a b) : X = .ok (.next (h (Nat.gcd a b) 0)) := by
  rw [← hX, hs]
  exact while_gcd hc hb hw n a b l
theorem modN (a b : Nat) (h : b ≠ 0) : (a : Int).fmod b = ((a % b : Nat) : Int) := by
  rw [fmodP (by omega), Int.natCast_emod]
def mo (a b : Int) : Int := if b < 0 then -(Nat.gcd a.natAbs b.natAbs : Int) else (Nat.gcd a.natAbs b.natAbs : Int)
def frZ (a b : Int) : Int × Int := (a.fdiv (mo a b), b.fdiv (mo a b))
/-- p is a / b in lowest terms -/
structure Low (p : Int × Int) (a b : Int) : Prop where
  pos : 1 ≤ p.2
  co : Nat.gcd p.1.natAbs p.2.natAbs = 1
  val : p.1 * b = a * p.2
theorem mo_abs (a b : Int) : (mo a b).natAbs = Nat.gcd a.natAbs b.natAbs := by
  unfold mo
  split <;> simp
theorem low {a b : Int} (hb : b ≠ 0) : Low (frZ a b) a b ∧ (frZ a b).1.natAbs ≤ a.natAbs ∧ (frZ a b).2.natAbs ≤ b.natAbs := by
  have gp : 0 < Nat.gcd a.natAbs b.natAbs := Nat.gcd_pos_of_pos_right _ (by omega)
  have hm := mo_abs a b
  have m0 : mo a b ≠ 0 := by omega
  obtain ⟨x, hx⟩ : mo a b ∣ a := Int.natAbs_dvd_natAbs.mp (by rw [hm]; exact Nat.gcd_dvd_left _ _)
  obtain ⟨y, hy⟩ : mo a b ∣ b := Int.natAbs_dvd_natAbs.mp (by rw [hm]; exact Nat.gcd_dvd_right _ _)
  have e1 : (frZ a b).1 = x := by
    show a.fdiv (mo a b) = x
    conv => lhs; arg 1; rw [hx]
    exact Int.mul_fdiv_cancel_left _ m0
  have e2 : (frZ a b).2 = y := by
    show b.fdiv (mo a b) = y
    conv => lhs; arg 1; rw [hy]
    exact Int.mul_fdiv_cancel_left _ m0
  have yp : 1 ≤ y := by
    have sg : (b < 0 ∧ mo a b < 0) ∨ (0 < b ∧ 0 < mo a b) := by
      unfold mo
      split <;> omega
    rcases sg with ⟨s1, s2⟩ | ⟨s1, s2⟩
    · by_cases h : 1 ≤ y
      · exact h
      · have : 0 ≤ mo a b * y := Int.mul_nonneg_of_nonpos_of_nonpos (by omega) (by omega)
        omega
    · by_cases h : 1 ≤ y
      · exact h
      · have : mo a b * y ≤ 0 := Int.mul_nonpos_of_nonneg_of_nonpos (by omega) (by omega)
        omega
  have ax : a.natAbs = (mo a b).natAbs * x.natAbs := by rw [← Int.natAbs_mul, ← hx]
  have ay : b.natAbs = (mo a b).natAbs * y.natAbs := by rw [← Int.natAbs_mul, ← hy]
  refine ⟨⟨by rw [e2]; exact yp, ?_, ?_⟩, ?_, ?_⟩
  · rw [e1, e2]
    have h : Nat.gcd a.natAbs b.natAbs = Nat.gcd a.natAbs b.natAbs * Nat.gcd x.natAbs y.natAbs := by
      conv => lhs; rw [ax, ay, hm, Nat.gcd_mul_left]
    exact (Nat.eq_of_mul_eq_mul_left gp (by rw [Nat.mul_one]; exact h)).symm
  · rw [e1, e2]
    conv => lhs; rw [hy]
    conv => rhs; rw [hx]
    ac_rfl
  · rw [e1, ax]
    exact Nat.le_mul_of_pos_left _ (by omega)
  · rw [e2, ay]
    exact Nat.le_mul_of_pos_left _ (by omega)
theorem dvok2 {j : Int} (h : j ≠ 0) (h2 : j.natAbs < 2 ^ 1000) : j ≠ 0 ∧ j.natAbs.log2 < 9000 := by
  refine ⟨h, ?_⟩
  have := (Nat.log2_lt (by omega)).mpr h2
  omega
theorem absD (a : Int) : (if a < 0 then -a else a) = (a.natAbs : Int) := by split <;> omega
theorem powM_bm {a : Ms} {l1 : Nat} {c1 n : Int} (h1 : Bm l1 c1 a) (hc1 : 0 ≤ c1) (hn : -4 ≤ n ∧ n ≤ 4) : Bm l1 (4 * c1) (powM n a) := by
  refine ⟨powM_meas h1.m, ?_, ?_⟩
  · unfold powM
    split
    · simp
    · unfold scale; rw [List.length_map]; exact h1.len
  · intro p hp
    unfold powM at hp
    split at hp
    · simp at hp
    · obtain ⟨r, hr, rfl⟩ := List.mem_map.mp hp
      have := h1.bd r hr
      show -(4 * c1) ≤ r.2 * n ∧ r.2 * n ≤ 4 * c1
      have k : n = -4 ∨ n = -3 ∨ n = -2 ∨ n = -1 ∨ n = 0 ∨ n = 1 ∨ n = 2 ∨ n = 3 ∨ n = 4 := by omega
      rcases k with rfl | rfl | rfl | rfl | rfl | rfl | rfl | rfl | rfl <;> omega
theorem Bm.mono {l l' : Nat} {c c' : Int} {m : Ms} (h : Bm l c m) (h1 : l ≤ l') (h2 : c ≤ c') : Bm l' c' m := ⟨h.m, Nat.le_trans h.len h1, fun p hp => by have := h.bd p hp; omega⟩
theorem bm_nil (l : Nat) (c : Int) : Bm l c [] := ⟨meas_nil, by simp, by simp⟩
/-! ### going part by part -/
def walkR : Rk → (Str → Ms) → List Ms → Ms × List Ms
  | .is _ m, _, _ => (m, [])
  | .nought, _, gs => (gs.headD [], [])
  | .input s, nm, _ => (nm s, [])
  | .pw a n, nm, gs => (powM n (walkR a nm gs).1, (walkR a nm gs).2)
  | .bin o a b, nm, gs =>
    let r := walkR a nm gs
    let q := walkR b nm (gs.drop a.nn)
    match o with
    | .times => (timM r.1 q.1, r.2 ++ q.2)
    | .over => (ovM r.1 q.1, r.2 ++ q.2)
    | _ => (r.1, r.2 ++ q.2 ++ [ovM r.1 q.1])
  | .less a b c e, nm, gs =>
    let r := walkR a nm gs
    let q := walkR b nm (gs.drop a.nn)
    let x := walkR c nm (gs.drop (a.nn + b.nn))
    let y := walkR e nm (gs.drop (a.nn + b.nn + c.nn))
    (x.1, r.2 ++ q.2 ++ x.2 ++ y.2 ++ [ovM r.1 q.1] ++ [ovM x.1 y.1])
/-- what a reckoning's leaves are -/
structure NumOk (p : Int × Int) : Prop where
  b1 : 1 ≤ p.2
  b2 : p.2 ≤ 1000000000
  a1 : -1000000000 ≤ p.1
  a2 : p.1 ≤ 1000000000
  co : Nat.gcd p.1.natAbs p.2.natAbs = 1
def Rk.Ok (l : Nat) (c : Int) (N : Str → Prop) : Rk → Prop
  | .is p m => NumOk p ∧ Bm l c m
  | .nought => True
  | .input s => N s
  | .pw a n => a.Ok l c N ∧ -4 ≤ n ∧ n ≤ 4
  | .bin _ a b => a.Ok l c N ∧ b.Ok l c N
  | .less a b x y => a.Ok l c N ∧ b.Ok l c N ∧ x.Ok l c N ∧ y.Ok l c N
theorem Rk.Ok.mono {l l' : Nat} {c c' : Int} {N N' : Str → Prop} (hl : l ≤ l') (hc : c ≤ c') : ∀ {r : Rk}, r.Ok l c N → (∀ s ∈ r.ins, N s → N' s) → r.Ok l' c' N'
  | .is _ _, h, _ => ⟨h.1, h.2.mono hl hc⟩
  | .nought, _, _ => trivial
  | .input s, h, q => q s (List.mem_singleton.mpr rfl) h
  | .pw a n, h, q => ⟨Rk.Ok.mono hl hc h.1 q, h.2⟩
  | .bin o a b, h, q => ⟨Rk.Ok.mono hl hc h.1 fun s hs => q s (by simp [Rk.ins, hs]), Rk.Ok.mono hl hc h.2 fun s hs => q s (by simp [Rk.ins, hs])⟩
  | .less a b x y, h, q => ⟨Rk.Ok.mono hl hc h.1 fun s hs => q s (by simp [Rk.ins, hs]), Rk.Ok.mono hl hc h.2.1 fun s hs => q s (by simp [Rk.ins, hs]), Rk.Ok.mono hl hc h.2.2.1 fun s hs => q s (by simp [Rk.ins, hs]), Rk.Ok.mono hl hc h.2.2.2 fun s hs => q s (by simp [Rk.ins, hs])⟩
theorem Rk.Ok_in {l : Nat} {c : Int} {N : Str → Prop} : ∀ {r : Rk}, r.Ok l c N → ∀ s ∈ r.ins, N s
  | .is _ _, h, s, hs => by simp [Rk.ins] at hs
  | .nought, _, s, hs => by simp [Rk.ins] at hs
  | .input _, h, s, hs => by rw [List.mem_singleton.mp hs]; exact h
  | .pw a n, h, s, hs => Rk.Ok_in h.1 s hs
  | .bin o a b, h, s, hs => (List.mem_append.mp hs).elim (Rk.Ok_in h.1 s) (Rk.Ok_in h.2 s)
  | .less a b x y, h, s, hs => by
    simp only [Rk.ins, List.mem_append] at hs
    rcases hs with ((q | q) | q) | q
    · exact Rk.Ok_in h.1 s q
    · exact Rk.Ok_in h.2.1 s q
    · exact Rk.Ok_in h.2.2.1 s q
    · exact Rk.Ok_in h.2.2.2 s q
theorem Rk.Ok_self {l : Nat} {c : Int} {N : Str → Prop} (M : Str → Prop) : ∀ {r : Rk}, r.Ok l c N → (∀ s ∈ r.ins, M s) → r.Ok l c M
  | .is _ _, h, _ => h
  | .nought, _, _ => trivial
  | .input s, h, q => q s (List.mem_singleton.mpr rfl)
  | .pw a n, h, q => ⟨Rk.Ok_self M h.1 q, h.2⟩
  | .bin o a b, h, q => ⟨Rk.Ok_self M h.1 fun s hs => q s (by simp [Rk.ins, hs]), Rk.Ok_self M h.2 fun s hs => q s (by simp [Rk.ins, hs])⟩
  | .less a b x y, h, q => ⟨Rk.Ok_self M h.1 fun s hs => q s (by simp [Rk.ins, hs]), Rk.Ok_self M h.2.1 fun s hs => q s (by simp [Rk.ins, hs]), Rk.Ok_self M h.2.2.1 fun s hs => q s (by simp [Rk.ins, hs]), Rk.Ok_self M h.2.2.2 fun s hs => q s (by simp [Rk.ins, hs])⟩
theorem Rk.Ok_ins {l : Nat} {c : Int} {N : Str → Prop} {r : Rk} (h : r.Ok l c N) : r.Ok l c (· ∈ r.ins) := Rk.Ok_self _ h fun _ hs => hs
theorem two_mono {l a b : Nat} (h : a ≤ b) : l * 2 ^ a ≤ l * 2 ^ b := Nat.mul_le_mul_left _ (Nat.pow_le_pow_right (by decide) h)
theorem four_mono {c : Int} {a b : Nat} (hc : 0 ≤ c) (h : a ≤ b) : c * 4 ^ a ≤ c * 4 ^ b := by
  apply Int.mul_le_mul_of_nonneg_left _ hc
  have : (4 : Nat) ^ a ≤ 4 ^ b := Nat.pow_le_pow_right (by decide) h
  exact_mod_cast this
theorem four_pos {c : Int} (a : Nat) (hc : 0 ≤ c) : 0 ≤ c * 4 ^ a := Int.mul_nonneg hc (Int.pow_nonneg (by decide))
def BmH (l : Nat) (c : Int) (h : Nat) (m : Ms) : Prop := Bm (l * 2 ^ h) (c * 4 ^ h) m
theorem BmH.mono {l : Nat} {c : Int} {h h' : Nat} {m : Ms} (b : BmH l c h m) (hc : 0 ≤ c) (k : h ≤ h') : BmH l c h' m := Bm.mono b (two_mono k) (four_mono hc k)
theorem BmH.bin {l : Nat} {c : Int} {h : Nat} {m a b : Ms} (hc : 0 ≤ c) (x : Bm (l * 2 ^ h + l * 2 ^ h) (c * 4 ^ h + c * 4 ^ h) m) : BmH l c (h + 1) m := by
  have := four_pos h hc
  refine Bm.mono x ?_ ?_
  · rw [Nat.pow_succ, ← Nat.mul_assoc]; omega
  · rw [Int.pow_succ, ← Int.mul_assoc]; omega
theorem BmH.use {l : Nat} {c : Int} {h : Nat} {m : Ms} (b : BmH l c h m) (h1 : l ≤ 8) (h2 : c ≤ 1000000000) (h3 : h ≤ 13) (hc : 0 ≤ c) : Meas m ∧ m.length ≤ 100000 ∧ ∀ p ∈ m, -(2 ^ 900) < p.2 ∧ p.2 < 2 ^ 900 := by
  have b := BmH.mono b hc h3
  have hl : l * 2 ^ 13 ≤ 100000 := by omega
  have hb : c * 4 ^ 13 ≤ 1000000000 * 4 ^ 13 := Int.mul_le_mul_of_nonneg_right h2 (by decide)
  refine ⟨b.m, Nat.le_trans b.len hl, fun p hp => ?_⟩
  have := b.bd p hp
  have k : (1000000000 : Int) * 4 ^ 13 < 2 ^ 900 := by decide
  omega
theorem walk_bm {l : Nat} {c : Int} {N : Str → Prop} {nm : Str → Ms} (hc : 0 ≤ c) (hn : ∀ s, N s → Bm l c (nm s)) : ∀ (r : Rk) (gs : List Ms), (∀ g ∈ gs, Bm l c g) → r.Ok l c N → BmH l c r.ht (walkR r nm gs).1 ∧ ∀ m ∈ (walkR r nm gs).2, BmH l c r.ht m
  | .is p m, gs, hg, h => by
    simp only [Rk.Ok] at h
    refine ⟨?_, by simp [walkR]⟩
    simp only [walkR, Rk.ht, BmH, Nat.pow_zero, Nat.mul_one, Int.pow_zero, Int.mul_one]
    exact h.2
  | .nought, gs, hg, h => by
    refine ⟨?_, by simp [walkR]⟩
    simp only [walkR, Rk.ht, BmH, Nat.pow_zero, Nat.mul_one, Int.pow_zero, Int.mul_one]
    cases gs with
    | nil => exact bm_nil _ _
    | cons g gs => exact hg g List.mem_cons_self
  | .input s, gs, hg, h => by
    simp only [Rk.Ok] at h
    refine ⟨?_, by simp [walkR]⟩
    simp only [walkR, Rk.ht, BmH, Nat.pow_zero, Nat.mul_one, Int.pow_zero, Int.mul_one]
    exact hn s h
  | .pw a n, gs, hg, h => by
    simp only [Rk.Ok] at h
    obtain ⟨i1, i2⟩ := walk_bm hc hn a gs hg h.1
    refine ⟨?_, fun m hm => (i2 m hm).mono hc (Nat.le_succ _)⟩
    refine Bm.mono (powM_bm i1 (four_pos _ hc) h.2) (two_mono (Nat.le_succ _)) ?_
    show _ ≤ c * 4 ^ (a.ht + 1)
    rw [Int.pow_succ]
    have e : 4 * (c * 4 ^ a.ht) = c * (4 ^ a.ht * 4) := by ac_rfl
    rw [← e]
    omega
  | .bin o a b, gs, hg, h => by
    simp only [Rk.Ok] at h
    have hd : ∀ n, ∀ g ∈ gs.drop n, Bm l c g := fun n g hm => hg g (List.mem_of_mem_drop hm)
    obtain ⟨i1, i2⟩ := walk_bm hc hn a gs hg h.1
    obtain ⟨j1, j2⟩ := walk_bm hc hn b (gs.drop a.nn) (hd _) h.2
    have i1 := i1.mono (h' := max a.ht b.ht) hc (Nat.le_max_left _ _)
    have j1 := j1.mono (h' := max a.ht b.ht) hc (Nat.le_max_right _ _)
    have t := BmH.bin (a := []) (b := []) hc (timM_bm i1 j1 (four_pos _ hc) (four_pos _ hc))
    have v := BmH.bin (a := []) (b := []) hc (ovM_bm i1 j1 (four_pos _ hc) (four_pos _ hc))
    have rows : ∀ m ∈ (walkR a nm gs).2 ++ (walkR b nm (gs.drop a.nn)).2, BmH l c (max a.ht b.ht + 1) m := fun m hm => (List.mem_append.mp hm).elim (fun q => (i2 m q).mono hc (by omega)) fun q => (j2 m q).mono hc (by omega)
    cases o with
    | times => exact ⟨t, rows⟩
    | over => exact ⟨v, rows⟩
    | plus => exact ⟨i1.mono hc (Nat.le_succ _), fun m hm => (List.mem_append.mp hm).elim (rows m) fun q => by rw [List.mem_singleton.mp q]; exact v⟩
    | minus => exact ⟨i1.mono hc (Nat.le_succ _), fun m hm => (List.mem_append.mp hm).elim (rows m) fun q => by rw [List.mem_singleton.mp q]; exact v⟩
  | .less a b x y, gs, hg, h => by
    simp only [Rk.Ok] at h
    have hd : ∀ n, ∀ g ∈ gs.drop n, Bm l c g := fun n g hm => hg g (List.mem_of_mem_drop hm)
    obtain ⟨i1, i2⟩ := walk_bm hc hn a gs hg h.1
    obtain ⟨j1, j2⟩ := walk_bm hc hn b _ (hd a.nn) h.2.1
    obtain ⟨k1, k2⟩ := walk_bm hc hn x _ (hd (a.nn + b.nn)) h.2.2.1
    obtain ⟨l1, l2⟩ := walk_bm hc hn y _ (hd (a.nn + b.nn + x.nn)) h.2.2.2
    have m1 : a.ht ≤ max (max a.ht b.ht) (max x.ht y.ht) := by omega
    have m2 : b.ht ≤ max (max a.ht b.ht) (max x.ht y.ht) := by omega
    have m3 : x.ht ≤ max (max a.ht b.ht) (max x.ht y.ht) := by omega
    have m4 : y.ht ≤ max (max a.ht b.ht) (max x.ht y.ht) := by omega
    have v := BmH.bin (a := []) (b := []) hc (ovM_bm (i1.mono hc m1) (j1.mono hc m2) (four_pos _ hc) (four_pos _ hc))
    have w := BmH.bin (a := []) (b := []) hc (ovM_bm (k1.mono hc m3) (l1.mono hc m4) (four_pos _ hc) (four_pos _ hc))
    refine ⟨(k1.mono hc m3).mono hc (Nat.le_succ _), fun m hm => ?_⟩
    simp only [walkR, List.mem_append, List.mem_singleton] at hm
    rcases hm with ((((q | q) | q) | q) | q) | q
    · exact (i2 m q).mono hc (by simp only [Rk.ht]; omega)
    · exact (j2 m q).mono hc (by simp only [Rk.ht]; omega)
    · exact (k2 m q).mono hc (by simp only [Rk.ht]; omega)
    · exact (l2 m q).mono hc (by simp only [Rk.ht]; omega)
    · rw [q]; exact v
    · rw [q]; exact w
end MP

namespace MP
open PySem PySem.Spec PyProof.Rows L2
/-! ### dicts by new keys -/
theorem dput_new {ks : List (Str × D)} {s : Str} {d : D} (h : s ∉ ks.map (·.1)) : dput ks s d = ks ++ [(s, d)] := by
  unfold dput
  have e : (ks.any fun p => decide (p.1 = s)) = false := by
    rw [List.any_eq_false]
    intro p hp q
    exact h (List.mem_map.mpr ⟨p, hp, of_decide_eq_true q⟩)
  rw [e]
  rfl
theorem dget_map {g : Str → D} : ∀ {L : List Str} {s : Str}, s ∈ L → dget (L.map fun s => (s, g s)) s = some (g s)
  | x :: L, s, h => by
    by_cases e : x = s
    · subst e; simp [dget]
    · have := dget_map (g := g) ((List.mem_cons.mp h).resolve_left fun z => e z.symm)
      unfold dget at this ⊢
      rw [List.map_cons, List.find?_cons]
      simp only [e, decide_false]
      exact this
/-! ### ranges -/
theorem rangeD_eq : ∀ (n : Nat) (i : Int), rangeD i n = (List.range n).map fun (k : Nat) => D.int (i + k)
  | 0, _ => rfl
  | n + 1, i => by
    rw [rangeD, rangeD_eq n, List.range_succ_eq_map, List.map_cons, List.map_map]
    congr 1
    · congr 1; simp
    · apply List.map_congr_left
      intro k _
      simp only [Function.comp]
      congr 1
      omega
theorem range0 (n : Nat) : rangeD 0 n = (List.range n).map fun (k : Nat) => D.int k := by
  rw [rangeD_eq]
  apply List.map_congr_left
  intro k _
  congr 1
  omega
/-- a comprehension over what is mapped -/
theorem evItems_mapG {α : Type} {step : D → R (Option D)} {g : α → D} {h : α → D} : ∀ {xs : List α}, (∀ x ∈ xs, step (g x) = .ok (some (h x))) → evItems step (xs.map g) = .ok (xs.map h)
  | [], _ => rfl
  | x :: xs, q => by
    simp only [List.map_cons, evItems, q x List.mem_cons_self, MP.R.bind_ok, evItems_mapG fun y hy => q y (List.mem_cons_of_mem _ hy), optCons]
theorem items_mapG {α : Type} {step : D → R (Option D)} {g : α → D} {xs : List α} {X : R (List D)} (hX : evItems step (xs.map g) = X) (h : α → D) (q : ∀ x ∈ xs, step (g x) = .ok (some (h x))) : X = .ok (xs.map h) := by
  rw [← hX]
  exact evItems_mapG q
/-- a loop over what is mapped -/
theorem for_invG {α : Type} {g : α → D} {step : D → SD → R Fl} {fg : List Nat} {xs : List α} {σ : SD} {X : R Fl} {G : Prop} (hX : exFor step fg (xs.map g) σ = X) (I : List α → SD → Prop) (h : I xs σ)
    (hs : ∀ x xs σ, I (x :: xs) σ → ∃ σ', step (g x) σ = .ok (.next σ') ∧ I xs (wipeD σ' fg)) (k : ∀ σ', I [] σ' → X = .ok (.next (wipeD σ' fg)) → G) : G := by
  refine for_inv hX (fun ds σ => ∃ ys : List α, ds = ys.map g ∧ I ys σ) ⟨xs, rfl, h⟩ ?_ ?_
  · rintro x ds σ ⟨ys, e, i⟩
    cases ys with
    | nil => cases e
    | cons y ys =>
      rw [List.map_cons] at e
      cases e
      obtain ⟨σ', e1, i1⟩ := hs y ys σ i
      exact ⟨σ', e1, ys, rfl, i1⟩
  · rintro σ' ⟨ys, e, i⟩ q
    have er : ys = [] := List.map_eq_nil_iff.mp e.symm
    subst er
    exact k σ' i q
/-! ### letters of names and noughts -/
def eqM (s : Str) : Ms := [(("=" : Str) ++ s, 1)]
def ngM (k : Nat) : Ms := [(("0" : Str) ++ Str.ofString (toString (k : Int)), 1)]
def nmD (L : List Str) : List (Str × D) := L.map fun s => (s, msD (eqM s))
def ngL (n : Nat) : List Ms := (List.range n).map ngM
theorem ngL_len (n : Nat) : (ngL n).length = n := by unfold ngL; rw [List.length_map, List.length_range]
theorem ltr_app1 {c s : Str} (hc : Tx 1 c) (h0 : 0 < c.length) (h : Ltr s) : Ltr (c ++ s) := by
  refine ⟨some_pos (by rw [app_len]; omega), ?_⟩
  have h2 := h.2
  rw [PyData.canLay0] at h2 ⊢
  unfold PyData.strOk at h2 ⊢
  rw [Array.all_eq_true'] at h2 ⊢
  intro x hx
  have hx' : x ∈ (c ++ s).cps.toList := by simpa using hx
  rw [app_list, List.mem_append] at hx'
  rcases hx' with q | q
  · have := hc.2 x q
    exact decide_eq_true (by omega)
  · exact h2 x (by simpa using q)
theorem bm_one {s : Str} (h : Ltr s) : Bm 1 1 [(s, 1)] := by
  refine ⟨⟨List.pairwise_singleton _ _, ?_, ?_⟩, by simp, ?_⟩
  · intro p hp; simp at hp; subst hp; exact (by decide : (1 : Int) ≠ 0)
  · intro p hp; simp at hp; subst hp; exact h
  · intro p hp; simp at hp; subst hp; exact (by decide : -1 ≤ (1 : Int) ∧ (1 : Int) ≤ 1)
theorem eqM_bm {s : Str} (h : Ltr s) : Bm 1 1 (eqM s) := bm_one (ltr_app1 (tx_lit (by decide +kernel)) (by decide +kernel) h)
theorem ngM_bm {k : Nat} (h : k < 10 ^ 20) : Bm 1 1 (ngM k) := by
  obtain ⟨t, p⟩ := num_tx (i := k) (by omega) (by omega)
  exact bm_one (ltr_app1 (tx_lit (by decide +kernel)) (by decide +kernel) (ltr_of t p))
theorem ngL_bm {n : Nat} (h : n ≤ 10 ^ 19) : ∀ g ∈ ngL n, Bm 1 1 g := fun g hg => by
  unfold ngL at hg
  obtain ⟨k, hk, rfl⟩ := List.mem_map.mp hg
  exact ngM_bm (by have := List.mem_range.mp hk; omega)
/-! ### lists of measures compared -/
theorem mss_lay : ∀ {ms : List Ms}, (∀ m ∈ ms, Meas m) → PyData.canLayAll0 (toPys (ms.map msD)) = true
  | [], _ => by simp [toPys, PyData.canLayAll0]
  | m :: ms, h => by
    have ih := mss_lay (ms := ms) fun q hq => h q (List.mem_cons_of_mem _ hq)
    have hp := ms_lay (h m List.mem_cons_self).lt
    simp only [List.map_cons, toPys, PyData.canLayAll0, Bool.and_eq_true]
    refine ⟨?_, ih⟩
    unfold msD
    rw [toPy, PyData.canLay0]
    exact hp
theorem mss_eqv : ∀ ms : List Ms, PyData.eqvAll (toPys (ms.map msD)) (toPys (ms.map msD)) = true
  | [] => by simp [toPys, PyData.eqvAll]
  | m :: ms => by
    have ih := mss_eqv ms
    have hm := eqD_ms m
    unfold eqD at hm
    simp only [List.map_cons, toPys, PyData.eqvAll, Bool.and_eq_true]
    exact ⟨hm, ih⟩
theorem mss_depth : ∀ ms : List Ms, PyData.depthAll (toPys (ms.map msD)) ≤ 64
  | [] => by simp [toPys, PyData.depthAll]
  | m :: ms => by
    have ih := mss_depth ms
    have hm := depth_ms m
    unfold msD
    simp only [List.map_cons, toPys, toPy, PyData.depthAll] at ih ⊢
    unfold msD at ih
    omega
theorem ms_depth2 : ∀ ms : Ms, PyData.depthAll (toPys (ms.map mpD)) ≤ 1
  | [] => by simp [toPys, PyData.depthAll]
  | p :: ms => by
    have ih := ms_depth2 ms
    simp only [List.map_cons, mpD, toPys, toPy, PyData.depthAll, PyData.depth] at ih ⊢
    omega
theorem mss_depth2 : ∀ ms : List Ms, PyData.depthAll (toPys (ms.map msD)) ≤ 2
  | [] => by simp [toPys, PyData.depthAll]
  | m :: ms => by
    have ih := mss_depth2 ms
    have hm := ms_depth2 m
    unfold msD at ih ⊢
    simp only [List.map_cons, toPys, toPy, PyData.depthAll, PyData.depth] at ih hm ⊢
    omega
theorem okD_mss {ms : List Ms} (h : ∀ m ∈ ms, Meas m) : okD (.lst (ms.map msD)) = True := by
  apply eq_true
  unfold okD SeqAt.shaped
  rw [Bool.and_eq_true]
  refine ⟨?_, ?_⟩
  · rw [toPy, PyData.canLay0]
    exact mss_lay h
  · rw [toPy]
    have := mss_depth2 ms
    refine decide_eq_true ?_
    simp only [PyData.depth]
    omega
theorem eqD_mss (ms : List Ms) : eqD (.lst (ms.map msD)) (.lst (ms.map msD)) = true := by
  unfold eqD
  simp only [toPy, PyData.eqv]
  exact mss_eqv ms
theorem ne_mss {ms : List Ms} (h : ∀ m ∈ ms, Meas m) : cmpD .ne (.lst (ms.map msD)) (.lst (ms.map msD)) = .ok (.bl false, .fz) := by
  rw [cmpD.eq_2, okD_mss h, eqD_mss, grd_pos ⟨trivial, trivial⟩]
  rfl
theorem eq_mss {ms : List Ms} (h : ∀ m ∈ ms, Meas m) : cmpD .eq (.lst (ms.map msD)) (.lst (ms.map msD)) = .ok (.bl true, .fz) := by
  rw [cmpD.eq_1, okD_mss h, eqD_mss, grd_pos ⟨trivial, trivial⟩]
theorem eq_ms {m : Ms} (h : Meas m) : cmpD .eq (msD m) (msD m) = .ok (.bl true, .fz) := by
  rw [cmpD.eq_1, okD_ms h, eqD_ms, grd_pos ⟨trivial, trivial⟩]
theorem isi_lst_lst (l : List D) : isiD (.lst l) "list" = .ok (.bl true, .fz) := by rfl
theorem isi_dic_dic (l : List (Str × D)) : isiD (.dic l) "dict" = .ok (.bl true, .fz) := by rfl
theorem isi_bl_bl (b : Bool) : isiD (.bl b) "bool" = .ok (.bl true, .fz) := by rfl
end MP

namespace MPk07
open PySem PySem.Spec PyProof.Rows L2 MP
def cell (ns : List Int) (k : Nat) : Int := match ns[k]? with
  | some x => x % 1000000000000000003
  | none => 0
theorem cell_ge (ns : List Int) (k : Nat) : 0 ≤ cell ns k ∧ cell ns k < 1000000000000000003 := by
  unfold cell
  split
  · exact ⟨Int.emod_nonneg _ (by decide), Int.emod_lt_of_pos _ (by decide)⟩
  · decide
theorem cell_at_eq (ns : List Int) (k : Nat) : m__law_cell_at [.scr ns, .int k] = .ok (.int (cell ns k), .fz) := by
  unfold m__law_cell_at ir__law_cell_at
  simp only [runD, s_cons, s_nil, s_frz, s_fgt, seq_next, seq_ret, seq_err, s_ifs, if_t, if_f, s_fors, s_whl, s_asg, s_nm_fz, s_nm_fr, s_tp, s_ret, s_rse, s_put, s_app, s_ext, s_par, e_and, e_or, and_t, and_f, or_t, or_f, test_bl, e_lc, ev.eq_1, ev.eq_2, ev.eq_3, ev.eq_4, ev.eq_5, ev.eq_6, ev.eq_7, ev.eq_8, ev.eq_9, ev.eq_12, ev.eq_13, ev.eq_14, ev.eq_15, ev.eq_16, ev.eq_17, ev.eq_18, ev.eq_19, ev.eq_20, ev.eq_21, ev.eq_22, ev.eq_23, evs, evo, evIt, MP.R.bind_ok, MP.R.bind_err, notBo_fz, notBo_fr, retK_fz, retK_fr, retK_bo, noErr_ok, binD.eq_1, binD.eq_2, binD.eq_3, binD.eq_4, binD.eq_5, binD.eq_6, binD.eq_7, binD.eq_8, binD.eq_9, binD.eq_10, binD.eq_11, cmpD.eq_1, cmpD.eq_2, cmpD.eq_3, cmpD.eq_4, cmpD.eq_5, cmpD.eq_6, cmpD.eq_7, cmpD.eq_8, cmpD.eq_9, cmpD.eq_10, cmpD.eq_11, cmpD.eq_12, cmpD.eq_13, ixD.eq_1, ixD.eq_2, ixD.eq_3, ixD.eq_4, ixD.eq_5, biD.eq_1, biD.eq_2, biD.eq_3, biD.eq_4, biD.eq_5, biD.eq_6, biD.eq_7, biD.eq_8, biD.eq_9, biD.eq_10, biD.eq_11, biD.eq_12, biD.eq_13, biD.eq_14, biD.eq_15, biD.eq_16, biD.eq_17, biD.eq_18, biD.eq_19, biD.eq_20, biD.eq_21, biD.eq_22, biD.eq_23, slD.eq_1, slD.eq_2, slD.eq_3, negD.eq_1, isi_int_int, isi_int_bool, isi_str_str, isi_tup_tup, notBos, asInt, asStr, asDic, rOpt, optOk, callD, isBo, bindTg, bindSlots, wipeD, ownL, ownK, ownAt, appD, extD.eq_1, putD.eq_1, putD.eq_2, setOwn, freeze, itemsD.eq_1, itemsD.eq_2, itemsD.eq_3, rng1D.eq_1, rng2D.eq_1, small62, Int.toNat_natCast, turnF, turnL, cast0, cast1, cast2, cast3, cast4, decide_true, decide_false,  freeze, app_len, rep_len,  inD.eq_1, inD.eq_2, inD.eq_3, tyD, MP.isNon, optCons, grd_T, slots_cons, slots_nil, immut, immuts, Option.map_some, Option.map_none, Option.getD_some, Option.getD_none, Option.bind_some, List.getElem?_cons_zero, List.getElem?_cons_succ, List.set_cons_zero, List.set_cons_succ, List.map_cons, List.map_nil, List.any_cons, List.any_nil, List.length_cons, List.length_nil, Nat.reduceAdd, Nat.reduceSub, List.replicate_succ, List.replicate_zero, List.cons_append, List.nil_append, Bool.or_false, Bool.false_and, Bool.and_false, Bool.false_eq_true, if_false, if_true, reduceIte, Bool.not_true, Bool.not_false, ne_eq, not_false_eq_true, and_true, true_and, and_self, Int.reduceEq, Int.reduceNe, not_true_eq_false, Int.reduceToNat, Int.reducePow, Int.reduceMul, Int.reduceAdd, Int.reduceSub, Int.reduceNeg, Nat.reduceLT, okD_int, okD_non, okD_bl, eqD_int]
  by_cases h : k < ns.length
  · have h' : (k : Int) < ns.length := by omega
    simp only [h', decide_true, runD, s_cons, s_nil, s_frz, s_fgt, seq_next, seq_ret, seq_err, s_ifs, if_t, if_f, s_fors, s_whl, s_asg, s_nm_fz, s_nm_fr, s_tp, s_ret, s_rse, s_put, s_app, s_ext, s_par, e_and, e_or, and_t, and_f, or_t, or_f, test_bl, e_lc, ev.eq_1, ev.eq_2, ev.eq_3, ev.eq_4, ev.eq_5, ev.eq_6, ev.eq_7, ev.eq_8, ev.eq_9, ev.eq_12, ev.eq_13, ev.eq_14, ev.eq_15, ev.eq_16, ev.eq_17, ev.eq_18, ev.eq_19, ev.eq_20, ev.eq_21, ev.eq_22, ev.eq_23, evs, evo, evIt, MP.R.bind_ok, MP.R.bind_err, notBo_fz, notBo_fr, retK_fz, retK_fr, retK_bo, noErr_ok, binD.eq_1, binD.eq_2, binD.eq_3, binD.eq_4, binD.eq_5, binD.eq_6, binD.eq_7, binD.eq_8, binD.eq_9, binD.eq_10, binD.eq_11, cmpD.eq_1, cmpD.eq_2, cmpD.eq_3, cmpD.eq_4, cmpD.eq_5, cmpD.eq_6, cmpD.eq_7, cmpD.eq_8, cmpD.eq_9, cmpD.eq_10, cmpD.eq_11, cmpD.eq_12, cmpD.eq_13, ixD.eq_1, ixD.eq_2, ixD.eq_3, ixD.eq_4, ixD.eq_5, biD.eq_1, biD.eq_2, biD.eq_3, biD.eq_4, biD.eq_5, biD.eq_6, biD.eq_7, biD.eq_8, biD.eq_9, biD.eq_10, biD.eq_11, biD.eq_12, biD.eq_13, biD.eq_14, biD.eq_15, biD.eq_16, biD.eq_17, biD.eq_18, biD.eq_19, biD.eq_20, biD.eq_21, biD.eq_22, biD.eq_23, slD.eq_1, slD.eq_2, slD.eq_3, negD.eq_1, isi_int_int, isi_int_bool, isi_str_str, isi_tup_tup, notBos, asInt, asStr, asDic, rOpt, optOk, callD, isBo, bindTg, bindSlots, wipeD, ownL, ownK, ownAt, appD, extD.eq_1, putD.eq_1, putD.eq_2, setOwn, freeze, itemsD.eq_1, itemsD.eq_2, itemsD.eq_3, rng1D.eq_1, rng2D.eq_1, small62, Int.toNat_natCast, turnF, turnL, cast0, cast1, cast2, cast3, cast4, decide_true, decide_false,  freeze, app_len, rep_len,  inD.eq_1, inD.eq_2, inD.eq_3, tyD, MP.isNon, optCons, grd_T, slots_cons, slots_nil, immut, immuts, Option.map_some, Option.map_none, Option.getD_some, Option.getD_none, Option.bind_some, List.getElem?_cons_zero, List.getElem?_cons_succ, List.set_cons_zero, List.set_cons_succ, List.map_cons, List.map_nil, List.any_cons, List.any_nil, List.length_cons, List.length_nil, Nat.reduceAdd, Nat.reduceSub, List.replicate_succ, List.replicate_zero, List.cons_append, List.nil_append, Bool.or_false, Bool.false_and, Bool.and_false, Bool.false_eq_true, if_false, if_true, reduceIte, Bool.not_true, Bool.not_false, ne_eq, not_false_eq_true, and_true, true_and, and_self, Int.reduceEq, Int.reduceNe, not_true_eq_false, Int.reduceToNat, Int.reducePow, Int.reduceMul, Int.reduceAdd, Int.reduceSub, Int.reduceNeg, Nat.reduceLT, okD_int, okD_non, okD_bl, eqD_int]
    rw [MP.atI_nat, List.getElem?_eq_getElem h]
    simp only [runD, s_cons, s_nil, s_frz, s_fgt, seq_next, seq_ret, seq_err, s_ifs, if_t, if_f, s_fors, s_whl, s_asg, s_nm_fz, s_nm_fr, s_tp, s_ret, s_rse, s_put, s_app, s_ext, s_par, e_and, e_or, and_t, and_f, or_t, or_f, test_bl, e_lc, ev.eq_1, ev.eq_2, ev.eq_3, ev.eq_4, ev.eq_5, ev.eq_6, ev.eq_7, ev.eq_8, ev.eq_9, ev.eq_12, ev.eq_13, ev.eq_14, ev.eq_15, ev.eq_16, ev.eq_17, ev.eq_18, ev.eq_19, ev.eq_20, ev.eq_21, ev.eq_22, ev.eq_23, evs, evo, evIt, MP.R.bind_ok, MP.R.bind_err, notBo_fz, notBo_fr, retK_fz, retK_fr, retK_bo, noErr_ok, binD.eq_1, binD.eq_2, binD.eq_3, binD.eq_4, binD.eq_5, binD.eq_6, binD.eq_7, binD.eq_8, binD.eq_9, binD.eq_10, binD.eq_11, cmpD.eq_1, cmpD.eq_2, cmpD.eq_3, cmpD.eq_4, cmpD.eq_5, cmpD.eq_6, cmpD.eq_7, cmpD.eq_8, cmpD.eq_9, cmpD.eq_10, cmpD.eq_11, cmpD.eq_12, cmpD.eq_13, ixD.eq_1, ixD.eq_2, ixD.eq_3, ixD.eq_4, ixD.eq_5, biD.eq_1, biD.eq_2, biD.eq_3, biD.eq_4, biD.eq_5, biD.eq_6, biD.eq_7, biD.eq_8, biD.eq_9, biD.eq_10, biD.eq_11, biD.eq_12, biD.eq_13, biD.eq_14, biD.eq_15, biD.eq_16, biD.eq_17, biD.eq_18, biD.eq_19, biD.eq_20, biD.eq_21, biD.eq_22, biD.eq_23, slD.eq_1, slD.eq_2, slD.eq_3, negD.eq_1, isi_int_int, isi_int_bool, isi_str_str, isi_tup_tup, notBos, asInt, asStr, asDic, rOpt, optOk, callD, isBo, bindTg, bindSlots, wipeD, ownL, ownK, ownAt, appD, extD.eq_1, putD.eq_1, putD.eq_2, setOwn, freeze, itemsD.eq_1, itemsD.eq_2, itemsD.eq_3, rng1D.eq_1, rng2D.eq_1, small62, Int.toNat_natCast, turnF, turnL, cast0, cast1, cast2, cast3, cast4, decide_true, decide_false,  freeze, app_len, rep_len,  inD.eq_1, inD.eq_2, inD.eq_3, tyD, MP.isNon, optCons, grd_T, slots_cons, slots_nil, immut, immuts, Option.map_some, Option.map_none, Option.getD_some, Option.getD_none, Option.bind_some, List.getElem?_cons_zero, List.getElem?_cons_succ, List.set_cons_zero, List.set_cons_succ, List.map_cons, List.map_nil, List.any_cons, List.any_nil, List.length_cons, List.length_nil, Nat.reduceAdd, Nat.reduceSub, List.replicate_succ, List.replicate_zero, List.cons_append, List.nil_append, Bool.or_false, Bool.false_and, Bool.and_false, Bool.false_eq_true, if_false, if_true, reduceIte, Bool.not_true, Bool.not_false, ne_eq, not_false_eq_true, and_true, true_and, and_self, Int.reduceEq, Int.reduceNe, not_true_eq_false, Int.reduceToNat, Int.reducePow, Int.reduceMul, Int.reduceAdd, Int.reduceSub, Int.reduceNeg, Nat.reduceLT, okD_int, okD_non, okD_bl, eqD_int]
    unfold cell
    rw [List.getElem?_eq_getElem h, fmodP (by decide)]
  · have h' : ¬ (k : Int) < ns.length := by omega
    simp only [h', decide_false, runD, s_cons, s_nil, s_frz, s_fgt, seq_next, seq_ret, seq_err, s_ifs, if_t, if_f, s_fors, s_whl, s_asg, s_nm_fz, s_nm_fr, s_tp, s_ret, s_rse, s_put, s_app, s_ext, s_par, e_and, e_or, and_t, and_f, or_t, or_f, test_bl, e_lc, ev.eq_1, ev.eq_2, ev.eq_3, ev.eq_4, ev.eq_5, ev.eq_6, ev.eq_7, ev.eq_8, ev.eq_9, ev.eq_12, ev.eq_13, ev.eq_14, ev.eq_15, ev.eq_16, ev.eq_17, ev.eq_18, ev.eq_19, ev.eq_20, ev.eq_21, ev.eq_22, ev.eq_23, evs, evo, evIt, MP.R.bind_ok, MP.R.bind_err, notBo_fz, notBo_fr, retK_fz, retK_fr, retK_bo, noErr_ok, binD.eq_1, binD.eq_2, binD.eq_3, binD.eq_4, binD.eq_5, binD.eq_6, binD.eq_7, binD.eq_8, binD.eq_9, binD.eq_10, binD.eq_11, cmpD.eq_1, cmpD.eq_2, cmpD.eq_3, cmpD.eq_4, cmpD.eq_5, cmpD.eq_6, cmpD.eq_7, cmpD.eq_8, cmpD.eq_9, cmpD.eq_10, cmpD.eq_11, cmpD.eq_12, cmpD.eq_13, ixD.eq_1, ixD.eq_2, ixD.eq_3, ixD.eq_4, ixD.eq_5, biD.eq_1, biD.eq_2, biD.eq_3, biD.eq_4, biD.eq_5, biD.eq_6, biD.eq_7, biD.eq_8, biD.eq_9, biD.eq_10, biD.eq_11, biD.eq_12, biD.eq_13, biD.eq_14, biD.eq_15, biD.eq_16, biD.eq_17, biD.eq_18, biD.eq_19, biD.eq_20, biD.eq_21, biD.eq_22, biD.eq_23, slD.eq_1, slD.eq_2, slD.eq_3, negD.eq_1, isi_int_int, isi_int_bool, isi_str_str, isi_tup_tup, notBos, asInt, asStr, asDic, rOpt, optOk, callD, isBo, bindTg, bindSlots, wipeD, ownL, ownK, ownAt, appD, extD.eq_1, putD.eq_1, putD.eq_2, setOwn, freeze, itemsD.eq_1, itemsD.eq_2, itemsD.eq_3, rng1D.eq_1, rng2D.eq_1, small62, Int.toNat_natCast, turnF, turnL, cast0, cast1, cast2, cast3, cast4, decide_true, decide_false,  freeze, app_len, rep_len,  inD.eq_1, inD.eq_2, inD.eq_3, tyD, MP.isNon, optCons, grd_T, slots_cons, slots_nil, immut, immuts, Option.map_some, Option.map_none, Option.getD_some, Option.getD_none, Option.bind_some, List.getElem?_cons_zero, List.getElem?_cons_succ, List.set_cons_zero, List.set_cons_succ, List.map_cons, List.map_nil, List.any_cons, List.any_nil, List.length_cons, List.length_nil, Nat.reduceAdd, Nat.reduceSub, List.replicate_succ, List.replicate_zero, List.cons_append, List.nil_append, Bool.or_false, Bool.false_and, Bool.and_false, Bool.false_eq_true, if_false, if_true, reduceIte, Bool.not_true, Bool.not_false, ne_eq, not_false_eq_true, and_true, true_and, and_self, Int.reduceEq, Int.reduceNe, not_true_eq_false, Int.reduceToNat, Int.reducePow, Int.reduceMul, Int.reduceAdd, Int.reduceSub, Int.reduceNeg, Nat.reduceLT, okD_int, okD_non, okD_bl, eqD_int]
    unfold cell
    rw [List.getElem?_eq_none (by omega)]
def mixZ (c k : Int) : Int := ((c * 48271 + k * 69621 + 11) % 2147483647 * ((c * 48271 + k * 69621 + 11) % 2147483647) + 7 * ((c * 48271 + k * 69621 + 11) % 2147483647) + k) % 2147483629
theorem mix_eq {c k : Int} (h1 : 0 ≤ c) (h2 : c < 10 ^ 40) (h3 : 0 ≤ k) (h4 : k < 10 ^ 40) : m__law_mix [.int c, .int k] = .ok (.int (mixZ c k), .fz) := by
  unfold m__law_mix ir__law_mix
  simp (disch := first | omega | (apply cmx <;> omega) | (apply dvok <;> omega) | decide | fail) only [runD, s_cons, s_nil, s_frz, s_fgt, seq_next, seq_ret, seq_err, s_ifs, if_t, if_f, s_fors, s_whl, s_asg, s_nm_fz, s_nm_fr, s_tp, s_ret, s_rse, s_put, s_app, s_ext, s_par, e_and, e_or, and_t, and_f, or_t, or_f, test_bl, e_lc, ev.eq_1, ev.eq_2, ev.eq_3, ev.eq_4, ev.eq_5, ev.eq_6, ev.eq_7, ev.eq_8, ev.eq_9, ev.eq_12, ev.eq_13, ev.eq_14, ev.eq_15, ev.eq_16, ev.eq_17, ev.eq_18, ev.eq_19, ev.eq_20, ev.eq_21, ev.eq_22, ev.eq_23, evs, evo, evIt, MP.R.bind_ok, MP.R.bind_err, notBo_fz, notBo_fr, retK_fz, retK_fr, retK_bo, noErr_ok, binD.eq_1, binD.eq_2, binD.eq_3, binD.eq_4, binD.eq_5, binD.eq_6, binD.eq_7, binD.eq_8, binD.eq_9, binD.eq_10, binD.eq_11, cmpD.eq_1, cmpD.eq_2, cmpD.eq_3, cmpD.eq_4, cmpD.eq_5, cmpD.eq_6, cmpD.eq_7, cmpD.eq_8, cmpD.eq_9, cmpD.eq_10, cmpD.eq_11, cmpD.eq_12, cmpD.eq_13, ixD.eq_1, ixD.eq_2, ixD.eq_3, ixD.eq_4, ixD.eq_5, biD.eq_1, biD.eq_2, biD.eq_3, biD.eq_4, biD.eq_5, biD.eq_6, biD.eq_7, biD.eq_8, biD.eq_9, biD.eq_10, biD.eq_11, biD.eq_12, biD.eq_13, biD.eq_14, biD.eq_15, biD.eq_16, biD.eq_17, biD.eq_18, biD.eq_19, biD.eq_20, biD.eq_21, biD.eq_22, biD.eq_23, slD.eq_1, slD.eq_2, slD.eq_3, negD.eq_1, isi_int_int, isi_int_bool, isi_str_str, isi_tup_tup, notBos, asInt, asStr, asDic, rOpt, optOk, callD, isBo, bindTg, bindSlots, wipeD, ownL, ownK, ownAt, appD, extD.eq_1, putD.eq_1, putD.eq_2, setOwn, freeze, itemsD.eq_1, itemsD.eq_2, itemsD.eq_3, rng1D.eq_1, rng2D.eq_1, small62, Int.toNat_natCast, turnF, turnL, cast0, cast1, cast2, cast3, cast4, decide_true, decide_false,  freeze, app_len, rep_len,  inD.eq_1, inD.eq_2, inD.eq_3, tyD, MP.isNon, optCons, grd_T, slots_cons, slots_nil, immut, immuts, Option.map_some, Option.map_none, Option.getD_some, Option.getD_none, Option.bind_some, List.getElem?_cons_zero, List.getElem?_cons_succ, List.set_cons_zero, List.set_cons_succ, List.map_cons, List.map_nil, List.any_cons, List.any_nil, List.length_cons, List.length_nil, Nat.reduceAdd, Nat.reduceSub, List.replicate_succ, List.replicate_zero, List.cons_append, List.nil_append, Bool.or_false, Bool.false_and, Bool.and_false, Bool.false_eq_true, if_false, if_true, reduceIte, Bool.not_true, Bool.not_false, ne_eq, not_false_eq_true, and_true, true_and, and_self, Int.reduceEq, Int.reduceNe, not_true_eq_false, Int.reduceToNat, Int.reducePow, Int.reduceMul, Int.reduceAdd, Int.reduceSub, Int.reduceNeg, Nat.reduceLT, okD_int, okD_non, okD_bl, eqD_int, grd_pos, fmodP, fdivP]
  rfl
theorem mixZ_ge (c k : Int) : 0 ≤ mixZ c k ∧ mixZ c k < 2147483629 := ⟨Int.emod_nonneg _ (by decide), Int.emod_lt_of_pos _ (by decide)⟩
def Wd (w : Str) : Prop := Tx 20 w ∧ 0 < w.length
theorem one_len (c : Nat) : Str.length ⟨#[c]⟩ = 1 := rfl
theorem words_eq {c : Int} {n : Nat} (h1 : 0 ≤ c) (h2 : c < 2 ^ 64) (h3 : n ≤ 100) : ∃ ws : List Str, m__law_words [.int c, .int n] = .ok (.lst (ws.map .str), .fr) ∧ ws.length = n ∧ ∀ w ∈ ws, Wd w := by
  obtain ⟨b, hb, lb⟩ := sg_at (i := c / 64 % 26) (by omega) (by omega)
  have hs : (1 + c % 8) ≠ 0 := by omega
  have es : ("abcdefghijklmnopqrstuvwxyz" : Str) = sg := rfl
  have sl := sg_len
  have lenb : Str.length ⟨#[b]⟩ = 1 := rfl
  have tb := tx_one lb
  obtain ⟨way, hw⟩ : ∃ w : Int, c / 3 % 4 = w := ⟨_, rfl⟩
  obtain ⟨place, hp⟩ : ∃ w : Int, c / 8 % (1 + c % 8) = w := ⟨_, rfl⟩
  have hp1 : 0 ≤ place := by rw [← hp]; exact Int.emod_nonneg _ (by omega)
  have hp2 : place < 1 + c % 8 := by rw [← hp]; exact Int.emod_lt_of_pos _ (by omega)
  unfold m__law_words ir__law_words
  rw [es]
  simp (disch := first | omega | (apply cmx <;> omega) | (apply dvok <;> omega) | decide | fail) only [runD, s_cons, s_nil, s_frz, s_fgt, seq_next, seq_ret, seq_err, s_ifs, if_t, if_f, s_fors, s_whl, s_asg, s_nm_fz, s_nm_fr, s_tp, s_ret, s_rse, s_put, s_app, s_ext, s_par, e_and, e_or, and_t, and_f, or_t, or_f, test_bl, e_lc, ev.eq_1, ev.eq_2, ev.eq_3, ev.eq_4, ev.eq_5, ev.eq_6, ev.eq_7, ev.eq_8, ev.eq_9, ev.eq_12, ev.eq_13, ev.eq_14, ev.eq_15, ev.eq_16, ev.eq_17, ev.eq_18, ev.eq_19, ev.eq_20, ev.eq_21, ev.eq_22, ev.eq_23, evs, evo, evIt, MP.R.bind_ok, MP.R.bind_err, notBo_fz, notBo_fr, retK_fz, retK_fr, retK_bo, noErr_ok, binD.eq_1, binD.eq_2, binD.eq_3, binD.eq_4, binD.eq_5, binD.eq_6, binD.eq_7, binD.eq_8, binD.eq_9, binD.eq_10, binD.eq_11, cmpD.eq_1, cmpD.eq_2, cmpD.eq_3, cmpD.eq_4, cmpD.eq_5, cmpD.eq_6, cmpD.eq_7, cmpD.eq_8, cmpD.eq_9, cmpD.eq_10, cmpD.eq_11, cmpD.eq_12, cmpD.eq_13, ixD.eq_1, ixD.eq_2, ixD.eq_3, ixD.eq_4, ixD.eq_5, biD.eq_1, biD.eq_2, biD.eq_3, biD.eq_4, biD.eq_5, biD.eq_6, biD.eq_7, biD.eq_8, biD.eq_9, biD.eq_10, biD.eq_11, biD.eq_12, biD.eq_13, biD.eq_14, biD.eq_15, biD.eq_16, biD.eq_17, biD.eq_18, biD.eq_19, biD.eq_20, biD.eq_21, biD.eq_22, biD.eq_23, slD.eq_1, slD.eq_2, slD.eq_3, negD.eq_1, isi_int_int, isi_int_bool, isi_str_str, isi_tup_tup, notBos, asInt, asStr, asDic, rOpt, optOk, callD, isBo, bindTg, bindSlots, wipeD, ownL, ownK, ownAt, appD, extD.eq_1, putD.eq_1, putD.eq_2, setOwn, freeze, itemsD.eq_1, itemsD.eq_2, itemsD.eq_3, rng1D.eq_1, rng2D.eq_1, small62, Int.toNat_natCast, turnF, turnL, cast0, cast1, cast2, cast3, cast4, decide_true, decide_false,  freeze, app_len, rep_len,  inD.eq_1, inD.eq_2, inD.eq_3, tyD, MP.isNon, optCons, grd_T, slots_cons, slots_nil, immut, immuts, Option.map_some, Option.map_none, Option.getD_some, Option.getD_none, Option.bind_some, List.getElem?_cons_zero, List.getElem?_cons_succ, List.set_cons_zero, List.set_cons_succ, List.map_cons, List.map_nil, List.any_cons, List.any_nil, List.length_cons, List.length_nil, Nat.reduceAdd, Nat.reduceSub, List.replicate_succ, List.replicate_zero, List.cons_append, List.nil_append, Bool.or_false, Bool.false_and, Bool.and_false, Bool.false_eq_true, if_false, if_true, reduceIte, Bool.not_true, Bool.not_false, ne_eq, not_false_eq_true, and_true, true_and, and_self, Int.reduceEq, Int.reduceNe, not_true_eq_false, Int.reduceToNat, Int.reducePow, Int.reduceMul, Int.reduceAdd, Int.reduceSub, Int.reduceNeg, Nat.reduceLT, okD_int, okD_non, okD_bl, eqD_int, grd_pos, fmodP, fdivP, hb, hw, hp, sl]
  generalize hX : exFor (turnF _ _) _ _ _ = X
  refine for_range hX (fun k σ => ∃ ws : List Str, σ = [some (D.int c, false), some (D.int n, false), some (D.str sg, false),
                    some (D.int (1 + c % 8), false), some (D.int place, false), some (D.str { cps := #[b] }, false),
                    some (D.int way, false), some (D.lst (ws.map .str), true), none, none, none] ∧ ws.length = k ∧ ∀ w ∈ ws, Wd w) ⟨[], rfl, rfl, fun _ h => by simp at h⟩ ?step ?rest
  case step =>
    clear hX
    rintro k σ hk ⟨ws, rfl, hl, hws⟩
    obtain ⟨s, hs1, ls⟩ := sg_at (i := (c / 1664 + 5 * k) % 26) (by omega) (by omega)
    obtain ⟨t, ht1, lt⟩ := sg_at (i := (c / 64 + k - 7) % 26) (by omega) (by omega)
    have lens : Str.length ⟨#[s]⟩ = 1 := rfl
    have lent : Str.length ⟨#[t]⟩ = 1 := rfl
    have go : ∀ w, Wd w → ∃ ws' : List Str, ws.map D.str ++ [D.str w] = ws'.map D.str ∧ ws'.length = k + 1 ∧ ∀ w ∈ ws', Wd w := fun w hw => ⟨ws ++ [w], snoc_strs ws w, by simp [hl], fun v hv => by
      rcases List.mem_append.mp hv with h | h
      · exact hws v h
      · rw [List.mem_singleton] at h; rw [h]; exact hw⟩
    have fin : ∀ w, Wd w → ∃ σ' : SD, (R.ok (Fl.next [some (D.int c, false), some (D.int n, false), some (D.str sg, false), some (D.int (1 + c % 8), false), some (D.int place, false), some (D.str { cps := #[b] }, false),
          some (D.int way, false), some (D.lst (ws.map D.str ++ [D.str w]), true), some (D.int k, false), some (D.str { cps := #[s] }, false), some (D.str w, false)]) : R Fl) = .ok (.next σ') ∧
        ∃ ws : List Str, wipeD σ' [8, 9, 10] = [some (D.int c, false), some (D.int n, false), some (D.str sg, false),
                    some (D.int (1 + c % 8), false), some (D.int place, false), some (D.str { cps := #[b] }, false),
                    some (D.int way, false), some (D.lst (ws.map .str), true), none, none, none] ∧ ws.length = k + 1 ∧ ∀ w ∈ ws, Wd w := fun w hw => by
      obtain ⟨ws', e, h1, h2⟩ := go w hw
      exact ⟨_, rfl, ws', by rw [e]; rfl, h1, h2⟩
    have q1 := Int.toNat_of_nonneg (a := (3 * (k : Int) + c / 9) % 8) (by omega)
    have ts := tx_one ls
    have tt := tx_one lt
    by_cases w0 : way = 0
    · have w0' : (way = 0) = True := eq_true w0
      have w1' : (way = 1) = False := eq_false (by omega)
      simp (disch := first | omega | (apply cmx <;> omega) | (apply dvok <;> omega) | decide | fail) only [runD, s_cons, s_nil, s_frz, s_fgt, seq_next, seq_ret, seq_err, s_ifs, if_t, if_f, s_fors, s_whl, s_asg, s_nm_fz, s_nm_fr, s_tp, s_ret, s_rse, s_put, s_app, s_ext, s_par, e_and, e_or, and_t, and_f, or_t, or_f, test_bl, e_lc, ev.eq_1, ev.eq_2, ev.eq_3, ev.eq_4, ev.eq_5, ev.eq_6, ev.eq_7, ev.eq_8, ev.eq_9, ev.eq_12, ev.eq_13, ev.eq_14, ev.eq_15, ev.eq_16, ev.eq_17, ev.eq_18, ev.eq_19, ev.eq_20, ev.eq_21, ev.eq_22, ev.eq_23, evs, evo, evIt, MP.R.bind_ok, MP.R.bind_err, notBo_fz, notBo_fr, retK_fz, retK_fr, retK_bo, noErr_ok, binD.eq_1, binD.eq_2, binD.eq_3, binD.eq_4, binD.eq_5, binD.eq_6, binD.eq_7, binD.eq_8, binD.eq_9, binD.eq_10, binD.eq_11, cmpD.eq_1, cmpD.eq_2, cmpD.eq_3, cmpD.eq_4, cmpD.eq_5, cmpD.eq_6, cmpD.eq_7, cmpD.eq_8, cmpD.eq_9, cmpD.eq_10, cmpD.eq_11, cmpD.eq_12, cmpD.eq_13, ixD.eq_1, ixD.eq_2, ixD.eq_3, ixD.eq_4, ixD.eq_5, biD.eq_1, biD.eq_2, biD.eq_3, biD.eq_4, biD.eq_5, biD.eq_6, biD.eq_7, biD.eq_8, biD.eq_9, biD.eq_10, biD.eq_11, biD.eq_12, biD.eq_13, biD.eq_14, biD.eq_15, biD.eq_16, biD.eq_17, biD.eq_18, biD.eq_19, biD.eq_20, biD.eq_21, biD.eq_22, biD.eq_23, slD.eq_1, slD.eq_2, slD.eq_3, negD.eq_1, isi_int_int, isi_int_bool, isi_str_str, isi_tup_tup, notBos, asInt, asStr, asDic, rOpt, optOk, callD, isBo, bindTg, bindSlots, wipeD, ownL, ownK, ownAt, appD, extD.eq_1, putD.eq_1, putD.eq_2, setOwn, freeze, itemsD.eq_1, itemsD.eq_2, itemsD.eq_3, rng1D.eq_1, rng2D.eq_1, small62, Int.toNat_natCast, turnF, turnL, cast0, cast1, cast2, cast3, cast4, decide_true, decide_false,  freeze, app_len, rep_len,  inD.eq_1, inD.eq_2, inD.eq_3, tyD, MP.isNon, optCons, grd_T, slots_cons, slots_nil, immut, immuts, Option.map_some, Option.map_none, Option.getD_some, Option.getD_none, Option.bind_some, List.getElem?_cons_zero, List.getElem?_cons_succ, List.set_cons_zero, List.set_cons_succ, List.map_cons, List.map_nil, List.any_cons, List.any_nil, List.length_cons, List.length_nil, Nat.reduceAdd, Nat.reduceSub, List.replicate_succ, List.replicate_zero, List.cons_append, List.nil_append, Bool.or_false, Bool.false_and, Bool.and_false, Bool.false_eq_true, if_false, if_true, reduceIte, Bool.not_true, Bool.not_false, ne_eq, not_false_eq_true, and_true, true_and, and_self, Int.reduceEq, Int.reduceNe, not_true_eq_false, Int.reduceToNat, Int.reducePow, Int.reduceMul, Int.reduceAdd, Int.reduceSub, Int.reduceNeg, Nat.reduceLT, okD_int, okD_non, okD_bl, eqD_int, grd_pos, fmodP, fdivP, hs1, ht1, lens, lent, lenb, w0', w1', decide_true, decide_false, List.length_map, hl]
      refine fin _ ⟨tx_mono (tx_app ts (tx_rep tb (m := 8) (by omega))) (by omega), ?_⟩
      rw [app_len, lens]
      omega
    · have w0' : (way = 0) = False := eq_false w0
      by_cases w1 : way = 1
      · have w1' : (way = 1) = True := eq_true w1
        by_cases k8 : k < 8
        · have k8' : (k : Int) < 8 := by omega
          have k7' : ¬ (7 : Int) < k := by omega
          simp (disch := first | omega | (apply cmx <;> omega) | (apply dvok <;> omega) | decide | fail) only [runD, s_cons, s_nil, s_frz, s_fgt, seq_next, seq_ret, seq_err, s_ifs, if_t, if_f, s_fors, s_whl, s_asg, s_nm_fz, s_nm_fr, s_tp, s_ret, s_rse, s_put, s_app, s_ext, s_par, e_and, e_or, and_t, and_f, or_t, or_f, test_bl, e_lc, ev.eq_1, ev.eq_2, ev.eq_3, ev.eq_4, ev.eq_5, ev.eq_6, ev.eq_7, ev.eq_8, ev.eq_9, ev.eq_12, ev.eq_13, ev.eq_14, ev.eq_15, ev.eq_16, ev.eq_17, ev.eq_18, ev.eq_19, ev.eq_20, ev.eq_21, ev.eq_22, ev.eq_23, evs, evo, evIt, MP.R.bind_ok, MP.R.bind_err, notBo_fz, notBo_fr, retK_fz, retK_fr, retK_bo, noErr_ok, binD.eq_1, binD.eq_2, binD.eq_3, binD.eq_4, binD.eq_5, binD.eq_6, binD.eq_7, binD.eq_8, binD.eq_9, binD.eq_10, binD.eq_11, cmpD.eq_1, cmpD.eq_2, cmpD.eq_3, cmpD.eq_4, cmpD.eq_5, cmpD.eq_6, cmpD.eq_7, cmpD.eq_8, cmpD.eq_9, cmpD.eq_10, cmpD.eq_11, cmpD.eq_12, cmpD.eq_13, ixD.eq_1, ixD.eq_2, ixD.eq_3, ixD.eq_4, ixD.eq_5, biD.eq_1, biD.eq_2, biD.eq_3, biD.eq_4, biD.eq_5, biD.eq_6, biD.eq_7, biD.eq_8, biD.eq_9, biD.eq_10, biD.eq_11, biD.eq_12, biD.eq_13, biD.eq_14, biD.eq_15, biD.eq_16, biD.eq_17, biD.eq_18, biD.eq_19, biD.eq_20, biD.eq_21, biD.eq_22, biD.eq_23, slD.eq_1, slD.eq_2, slD.eq_3, negD.eq_1, isi_int_int, isi_int_bool, isi_str_str, isi_tup_tup, notBos, asInt, asStr, asDic, rOpt, optOk, callD, isBo, bindTg, bindSlots, wipeD, ownL, ownK, ownAt, appD, extD.eq_1, putD.eq_1, putD.eq_2, setOwn, freeze, itemsD.eq_1, itemsD.eq_2, itemsD.eq_3, rng1D.eq_1, rng2D.eq_1, small62, Int.toNat_natCast, turnF, turnL, cast0, cast1, cast2, cast3, cast4, decide_true, decide_false,  freeze, app_len, rep_len,  inD.eq_1, inD.eq_2, inD.eq_3, tyD, MP.isNon, optCons, grd_T, slots_cons, slots_nil, immut, immuts, Option.map_some, Option.map_none, Option.getD_some, Option.getD_none, Option.bind_some, List.getElem?_cons_zero, List.getElem?_cons_succ, List.set_cons_zero, List.set_cons_succ, List.map_cons, List.map_nil, List.any_cons, List.any_nil, List.length_cons, List.length_nil, Nat.reduceAdd, Nat.reduceSub, List.replicate_succ, List.replicate_zero, List.cons_append, List.nil_append, Bool.or_false, Bool.false_and, Bool.and_false, Bool.false_eq_true, if_false, if_true, reduceIte, Bool.not_true, Bool.not_false, ne_eq, not_false_eq_true, and_true, true_and, and_self, Int.reduceEq, Int.reduceNe, not_true_eq_false, Int.reduceToNat, Int.reducePow, Int.reduceMul, Int.reduceAdd, Int.reduceSub, Int.reduceNeg, Nat.reduceLT, okD_int, okD_non, okD_bl, eqD_int, grd_pos, fmodP, fdivP, hs1, ht1, lens, lent, lenb, w0', w1', k8', k7', decide_true, decide_false, List.length_map, hl]
          refine fin _ ⟨tx_mono (tx_rep tb (m := 8) (by omega)) (by omega), ?_⟩
          rw [rep_len, lenb]
          omega
        · have k8' : ¬ (k : Int) < 8 := by omega
          have k7' : (7 : Int) < k := by omega
          simp (disch := first | omega | (apply cmx <;> omega) | (apply dvok <;> omega) | decide | fail) only [runD, s_cons, s_nil, s_frz, s_fgt, seq_next, seq_ret, seq_err, s_ifs, if_t, if_f, s_fors, s_whl, s_asg, s_nm_fz, s_nm_fr, s_tp, s_ret, s_rse, s_put, s_app, s_ext, s_par, e_and, e_or, and_t, and_f, or_t, or_f, test_bl, e_lc, ev.eq_1, ev.eq_2, ev.eq_3, ev.eq_4, ev.eq_5, ev.eq_6, ev.eq_7, ev.eq_8, ev.eq_9, ev.eq_12, ev.eq_13, ev.eq_14, ev.eq_15, ev.eq_16, ev.eq_17, ev.eq_18, ev.eq_19, ev.eq_20, ev.eq_21, ev.eq_22, ev.eq_23, evs, evo, evIt, MP.R.bind_ok, MP.R.bind_err, notBo_fz, notBo_fr, retK_fz, retK_fr, retK_bo, noErr_ok, binD.eq_1, binD.eq_2, binD.eq_3, binD.eq_4, binD.eq_5, binD.eq_6, binD.eq_7, binD.eq_8, binD.eq_9, binD.eq_10, binD.eq_11, cmpD.eq_1, cmpD.eq_2, cmpD.eq_3, cmpD.eq_4, cmpD.eq_5, cmpD.eq_6, cmpD.eq_7, cmpD.eq_8, cmpD.eq_9, cmpD.eq_10, cmpD.eq_11, cmpD.eq_12, cmpD.eq_13, ixD.eq_1, ixD.eq_2, ixD.eq_3, ixD.eq_4, ixD.eq_5, biD.eq_1, biD.eq_2, biD.eq_3, biD.eq_4, biD.eq_5, biD.eq_6, biD.eq_7, biD.eq_8, biD.eq_9, biD.eq_10, biD.eq_11, biD.eq_12, biD.eq_13, biD.eq_14, biD.eq_15, biD.eq_16, biD.eq_17, biD.eq_18, biD.eq_19, biD.eq_20, biD.eq_21, biD.eq_22, biD.eq_23, slD.eq_1, slD.eq_2, slD.eq_3, negD.eq_1, isi_int_int, isi_int_bool, isi_str_str, isi_tup_tup, notBos, asInt, asStr, asDic, rOpt, optOk, callD, isBo, bindTg, bindSlots, wipeD, ownL, ownK, ownAt, appD, extD.eq_1, putD.eq_1, putD.eq_2, setOwn, freeze, itemsD.eq_1, itemsD.eq_2, itemsD.eq_3, rng1D.eq_1, rng2D.eq_1, small62, Int.toNat_natCast, turnF, turnL, cast0, cast1, cast2, cast3, cast4, decide_true, decide_false,  freeze, app_len, rep_len,  inD.eq_1, inD.eq_2, inD.eq_3, tyD, MP.isNon, optCons, grd_T, slots_cons, slots_nil, immut, immuts, Option.map_some, Option.map_none, Option.getD_some, Option.getD_none, Option.bind_some, List.getElem?_cons_zero, List.getElem?_cons_succ, List.set_cons_zero, List.set_cons_succ, List.map_cons, List.map_nil, List.any_cons, List.any_nil, List.length_cons, List.length_nil, Nat.reduceAdd, Nat.reduceSub, List.replicate_succ, List.replicate_zero, List.cons_append, List.nil_append, Bool.or_false, Bool.false_and, Bool.and_false, Bool.false_eq_true, if_false, if_true, reduceIte, Bool.not_true, Bool.not_false, ne_eq, not_false_eq_true, and_true, true_and, and_self, Int.reduceEq, Int.reduceNe, not_true_eq_false, Int.reduceToNat, Int.reducePow, Int.reduceMul, Int.reduceAdd, Int.reduceSub, Int.reduceNeg, Nat.reduceLT, okD_int, okD_non, okD_bl, eqD_int, grd_pos, fmodP, fdivP, hs1, ht1, lens, lent, lenb, w0', w1', k8', k7', decide_true, decide_false, List.length_map, hl]
          refine fin _ ⟨tx_mono (tx_app tt (tx_rep tb (m := 8) (by omega))) (by omega), ?_⟩
          rw [app_len, lent]
          omega
      · have w1' : (way = 1) = False := eq_false w1
        simp (disch := first | omega | (apply cmx <;> omega) | (apply dvok <;> omega) | decide | fail) only [runD, s_cons, s_nil, s_frz, s_fgt, seq_next, seq_ret, seq_err, s_ifs, if_t, if_f, s_fors, s_whl, s_asg, s_nm_fz, s_nm_fr, s_tp, s_ret, s_rse, s_put, s_app, s_ext, s_par, e_and, e_or, and_t, and_f, or_t, or_f, test_bl, e_lc, ev.eq_1, ev.eq_2, ev.eq_3, ev.eq_4, ev.eq_5, ev.eq_6, ev.eq_7, ev.eq_8, ev.eq_9, ev.eq_12, ev.eq_13, ev.eq_14, ev.eq_15, ev.eq_16, ev.eq_17, ev.eq_18, ev.eq_19, ev.eq_20, ev.eq_21, ev.eq_22, ev.eq_23, evs, evo, evIt, MP.R.bind_ok, MP.R.bind_err, notBo_fz, notBo_fr, retK_fz, retK_fr, retK_bo, noErr_ok, binD.eq_1, binD.eq_2, binD.eq_3, binD.eq_4, binD.eq_5, binD.eq_6, binD.eq_7, binD.eq_8, binD.eq_9, binD.eq_10, binD.eq_11, cmpD.eq_1, cmpD.eq_2, cmpD.eq_3, cmpD.eq_4, cmpD.eq_5, cmpD.eq_6, cmpD.eq_7, cmpD.eq_8, cmpD.eq_9, cmpD.eq_10, cmpD.eq_11, cmpD.eq_12, cmpD.eq_13, ixD.eq_1, ixD.eq_2, ixD.eq_3, ixD.eq_4, ixD.eq_5, biD.eq_1, biD.eq_2, biD.eq_3, biD.eq_4, biD.eq_5, biD.eq_6, biD.eq_7, biD.eq_8, biD.eq_9, biD.eq_10, biD.eq_11, biD.eq_12, biD.eq_13, biD.eq_14, biD.eq_15, biD.eq_16, biD.eq_17, biD.eq_18, biD.eq_19, biD.eq_20, biD.eq_21, biD.eq_22, biD.eq_23, slD.eq_1, slD.eq_2, slD.eq_3, negD.eq_1, isi_int_int, isi_int_bool, isi_str_str, isi_tup_tup, notBos, asInt, asStr, asDic, rOpt, optOk, callD, isBo, bindTg, bindSlots, wipeD, ownL, ownK, ownAt, appD, extD.eq_1, putD.eq_1, putD.eq_2, setOwn, freeze, itemsD.eq_1, itemsD.eq_2, itemsD.eq_3, rng1D.eq_1, rng2D.eq_1, small62, Int.toNat_natCast, turnF, turnL, cast0, cast1, cast2, cast3, cast4, decide_true, decide_false,  freeze, app_len, rep_len,  inD.eq_1, inD.eq_2, inD.eq_3, tyD, MP.isNon, optCons, grd_T, slots_cons, slots_nil, immut, immuts, Option.map_some, Option.map_none, Option.getD_some, Option.getD_none, Option.bind_some, List.getElem?_cons_zero, List.getElem?_cons_succ, List.set_cons_zero, List.set_cons_succ, List.map_cons, List.map_nil, List.any_cons, List.any_nil, List.length_cons, List.length_nil, Nat.reduceAdd, Nat.reduceSub, List.replicate_succ, List.replicate_zero, List.cons_append, List.nil_append, Bool.or_false, Bool.false_and, Bool.and_false, Bool.false_eq_true, if_false, if_true, reduceIte, Bool.not_true, Bool.not_false, ne_eq, not_false_eq_true, and_true, true_and, and_self, Int.reduceEq, Int.reduceNe, not_true_eq_false, Int.reduceToNat, Int.reducePow, Int.reduceMul, Int.reduceAdd, Int.reduceSub, Int.reduceNeg, Nat.reduceLT, okD_int, okD_non, okD_bl, eqD_int, grd_pos, fmodP, fdivP, hs1, ht1, lens, lent, lenb, w0', w1', decide_true, decide_false, List.length_map, hl]
        refine fin _ ⟨tx_mono (tx_app (tx_app (tx_rep tb (m := 8) (by omega)) ts) (tx_rep tb (m := 8) (by omega))) (by omega), ?_⟩
        rw [app_len, app_len, lens]
        omega
  case rest =>
    rintro σ' ⟨ws, rfl, hl, hw'⟩ rfl
    refine ⟨ws, ?_, hl, hw'⟩
    simp (disch := first | omega | (apply cmx <;> omega) | (apply dvok <;> omega) | decide | fail) only [runD, s_cons, s_nil, s_frz, s_fgt, seq_next, seq_ret, seq_err, s_ifs, if_t, if_f, s_fors, s_whl, s_asg, s_nm_fz, s_nm_fr, s_tp, s_ret, s_rse, s_put, s_app, s_ext, s_par, e_and, e_or, and_t, and_f, or_t, or_f, test_bl, e_lc, ev.eq_1, ev.eq_2, ev.eq_3, ev.eq_4, ev.eq_5, ev.eq_6, ev.eq_7, ev.eq_8, ev.eq_9, ev.eq_12, ev.eq_13, ev.eq_14, ev.eq_15, ev.eq_16, ev.eq_17, ev.eq_18, ev.eq_19, ev.eq_20, ev.eq_21, ev.eq_22, ev.eq_23, evs, evo, evIt, MP.R.bind_ok, MP.R.bind_err, notBo_fz, notBo_fr, retK_fz, retK_fr, retK_bo, noErr_ok, binD.eq_1, binD.eq_2, binD.eq_3, binD.eq_4, binD.eq_5, binD.eq_6, binD.eq_7, binD.eq_8, binD.eq_9, binD.eq_10, binD.eq_11, cmpD.eq_1, cmpD.eq_2, cmpD.eq_3, cmpD.eq_4, cmpD.eq_5, cmpD.eq_6, cmpD.eq_7, cmpD.eq_8, cmpD.eq_9, cmpD.eq_10, cmpD.eq_11, cmpD.eq_12, cmpD.eq_13, ixD.eq_1, ixD.eq_2, ixD.eq_3, ixD.eq_4, ixD.eq_5, biD.eq_1, biD.eq_2, biD.eq_3, biD.eq_4, biD.eq_5, biD.eq_6, biD.eq_7, biD.eq_8, biD.eq_9, biD.eq_10, biD.eq_11, biD.eq_12, biD.eq_13, biD.eq_14, biD.eq_15, biD.eq_16, biD.eq_17, biD.eq_18, biD.eq_19, biD.eq_20, biD.eq_21, biD.eq_22, biD.eq_23, slD.eq_1, slD.eq_2, slD.eq_3, negD.eq_1, isi_int_int, isi_int_bool, isi_str_str, isi_tup_tup, notBos, asInt, asStr, asDic, rOpt, optOk, callD, isBo, bindTg, bindSlots, wipeD, ownL, ownK, ownAt, appD, extD.eq_1, putD.eq_1, putD.eq_2, setOwn, freeze, itemsD.eq_1, itemsD.eq_2, itemsD.eq_3, rng1D.eq_1, rng2D.eq_1, small62, Int.toNat_natCast, turnF, turnL, cast0, cast1, cast2, cast3, cast4, decide_true, decide_false,  freeze, app_len, rep_len,  inD.eq_1, inD.eq_2, inD.eq_3, tyD, MP.isNon, optCons, grd_T, slots_cons, slots_nil, immut, immuts, Option.map_some, Option.map_none, Option.getD_some, Option.getD_none, Option.bind_some, List.getElem?_cons_zero, List.getElem?_cons_succ, List.set_cons_zero, List.set_cons_succ, List.map_cons, List.map_nil, List.any_cons, List.any_nil, List.length_cons, List.length_nil, Nat.reduceAdd, Nat.reduceSub, List.replicate_succ, List.replicate_zero, List.cons_append, List.nil_append, Bool.or_false, Bool.false_and, Bool.and_false, Bool.false_eq_true, if_false, if_true, reduceIte, Bool.not_true, Bool.not_false, ne_eq, not_false_eq_true, and_true, true_and, and_self, Int.reduceEq, Int.reduceNe, not_true_eq_false, Int.reduceToNat, Int.reducePow, Int.reduceMul, Int.reduceAdd, Int.reduceSub, Int.reduceNeg, Nat.reduceLT, okD_int, okD_non, okD_bl, eqD_int]
theorem lmade_eq {ks : Ms} (h : ks.length ≤ 1000000) : m__law_made [.dic (dkI ks)] = .ok (msD (madeM ks), .fz) := by
  unfold m__law_made ir__law_made
  simp (disch := first | omega | (apply cmx <;> omega) | (apply dvok <;> omega) | decide | fail) only [runD, s_cons, s_nil, s_frz, s_fgt, seq_next, seq_ret, seq_err, s_ifs, if_t, if_f, s_fors, s_whl, s_asg, s_nm_fz, s_nm_fr, s_tp, s_ret, s_rse, s_put, s_app, s_ext, s_par, e_and, e_or, and_t, and_f, or_t, or_f, test_bl, e_lc, ev.eq_1, ev.eq_2, ev.eq_3, ev.eq_4, ev.eq_5, ev.eq_6, ev.eq_7, ev.eq_8, ev.eq_9, ev.eq_12, ev.eq_13, ev.eq_14, ev.eq_15, ev.eq_16, ev.eq_17, ev.eq_18, ev.eq_19, ev.eq_20, ev.eq_21, ev.eq_22, ev.eq_23, evs, evo, evIt, MP.R.bind_ok, MP.R.bind_err, notBo_fz, notBo_fr, retK_fz, retK_fr, retK_bo, noErr_ok, binD.eq_1, binD.eq_2, binD.eq_3, binD.eq_4, binD.eq_5, binD.eq_6, binD.eq_7, binD.eq_8, binD.eq_9, binD.eq_10, binD.eq_11, cmpD.eq_1, cmpD.eq_2, cmpD.eq_3, cmpD.eq_4, cmpD.eq_5, cmpD.eq_6, cmpD.eq_7, cmpD.eq_8, cmpD.eq_9, cmpD.eq_10, cmpD.eq_11, cmpD.eq_12, cmpD.eq_13, ixD.eq_1, ixD.eq_2, ixD.eq_3, ixD.eq_4, ixD.eq_5, biD.eq_1, biD.eq_2, biD.eq_3, biD.eq_4, biD.eq_5, biD.eq_6, biD.eq_7, biD.eq_8, biD.eq_9, biD.eq_10, biD.eq_11, biD.eq_12, biD.eq_13, biD.eq_14, biD.eq_15, biD.eq_16, biD.eq_17, biD.eq_18, biD.eq_19, biD.eq_20, biD.eq_21, biD.eq_22, biD.eq_23, slD.eq_1, slD.eq_2, slD.eq_3, negD.eq_1, isi_int_int, isi_int_bool, isi_str_str, isi_tup_tup, notBos, asInt, asStr, asDic, rOpt, optOk, callD, isBo, bindTg, bindSlots, wipeD, ownL, ownK, ownAt, appD, extD.eq_1, putD.eq_1, putD.eq_2, setOwn, freeze, itemsD.eq_1, itemsD.eq_2, itemsD.eq_3, rng1D.eq_1, rng2D.eq_1, small62, Int.toNat_natCast, turnF, turnL, cast0, cast1, cast2, cast3, cast4, decide_true, decide_false,  freeze, app_len, rep_len,  inD.eq_1, inD.eq_2, inD.eq_3, tyD, MP.isNon, optCons, grd_T, slots_cons, slots_nil, immut, immuts, Option.map_some, Option.map_none, Option.getD_some, Option.getD_none, Option.bind_some, List.getElem?_cons_zero, List.getElem?_cons_succ, List.set_cons_zero, List.set_cons_succ, List.map_cons, List.map_nil, List.any_cons, List.any_nil, List.length_cons, List.length_nil, Nat.reduceAdd, Nat.reduceSub, List.replicate_succ, List.replicate_zero, List.cons_append, List.nil_append, Bool.or_false, Bool.false_and, Bool.and_false, Bool.false_eq_true, if_false, if_true, reduceIte, Bool.not_true, Bool.not_false, ne_eq, not_false_eq_true, and_true, true_and, and_self, Int.reduceEq, Int.reduceNe, not_true_eq_false, Int.reduceToNat, Int.reducePow, Int.reduceMul, Int.reduceAdd, Int.reduceSub, Int.reduceNeg, Nat.reduceLT, okD_int, okD_non, okD_bl, eqD_int, grd_pos, List.length_map, sortS_length, dkI_keys, h]
  generalize hX : evItems _ _ = X
  rw [items_map hX (madeF ks) ?_, madeF_all]
  · simp (disch := first | omega | (apply cmx <;> omega) | (apply dvok <;> omega) | decide | fail) only [runD, s_cons, s_nil, s_frz, s_fgt, seq_next, seq_ret, seq_err, s_ifs, if_t, if_f, s_fors, s_whl, s_asg, s_nm_fz, s_nm_fr, s_tp, s_ret, s_rse, s_put, s_app, s_ext, s_par, e_and, e_or, and_t, and_f, or_t, or_f, test_bl, e_lc, ev.eq_1, ev.eq_2, ev.eq_3, ev.eq_4, ev.eq_5, ev.eq_6, ev.eq_7, ev.eq_8, ev.eq_9, ev.eq_12, ev.eq_13, ev.eq_14, ev.eq_15, ev.eq_16, ev.eq_17, ev.eq_18, ev.eq_19, ev.eq_20, ev.eq_21, ev.eq_22, ev.eq_23, evs, evo, evIt, MP.R.bind_ok, MP.R.bind_err, notBo_fz, notBo_fr, retK_fz, retK_fr, retK_bo, noErr_ok, binD.eq_1, binD.eq_2, binD.eq_3, binD.eq_4, binD.eq_5, binD.eq_6, binD.eq_7, binD.eq_8, binD.eq_9, binD.eq_10, binD.eq_11, cmpD.eq_1, cmpD.eq_2, cmpD.eq_3, cmpD.eq_4, cmpD.eq_5, cmpD.eq_6, cmpD.eq_7, cmpD.eq_8, cmpD.eq_9, cmpD.eq_10, cmpD.eq_11, cmpD.eq_12, cmpD.eq_13, ixD.eq_1, ixD.eq_2, ixD.eq_3, ixD.eq_4, ixD.eq_5, biD.eq_1, biD.eq_2, biD.eq_3, biD.eq_4, biD.eq_5, biD.eq_6, biD.eq_7, biD.eq_8, biD.eq_9, biD.eq_10, biD.eq_11, biD.eq_12, biD.eq_13, biD.eq_14, biD.eq_15, biD.eq_16, biD.eq_17, biD.eq_18, biD.eq_19, biD.eq_20, biD.eq_21, biD.eq_22, biD.eq_23, slD.eq_1, slD.eq_2, slD.eq_3, negD.eq_1, isi_int_int, isi_int_bool, isi_str_str, isi_tup_tup, notBos, asInt, asStr, asDic, rOpt, optOk, callD, isBo, bindTg, bindSlots, wipeD, ownL, ownK, ownAt, appD, extD.eq_1, putD.eq_1, putD.eq_2, setOwn, freeze, itemsD.eq_1, itemsD.eq_2, itemsD.eq_3, rng1D.eq_1, rng2D.eq_1, small62, Int.toNat_natCast, turnF, turnL, cast0, cast1, cast2, cast3, cast4, decide_true, decide_false,  freeze, app_len, rep_len,  inD.eq_1, inD.eq_2, inD.eq_3, tyD, MP.isNon, optCons, grd_T, slots_cons, slots_nil, immut, immuts, Option.map_some, Option.map_none, Option.getD_some, Option.getD_none, Option.bind_some, List.getElem?_cons_zero, List.getElem?_cons_succ, List.set_cons_zero, List.set_cons_succ, List.map_cons, List.map_nil, List.any_cons, List.any_nil, List.length_cons, List.length_nil, Nat.reduceAdd, Nat.reduceSub, List.replicate_succ, List.replicate_zero, List.cons_append, List.nil_append, Bool.or_false, Bool.false_and, Bool.and_false, Bool.false_eq_true, if_false, if_true, reduceIte, Bool.not_true, Bool.not_false, ne_eq, not_false_eq_true, and_true, true_and, and_self, Int.reduceEq, Int.reduceNe, not_true_eq_false, Int.reduceToNat, Int.reducePow, Int.reduceMul, Int.reduceAdd, Int.reduceSub, Int.reduceNeg, Nat.reduceLT, okD_int, okD_non, okD_bl, eqD_int, grd_pos]
    rfl
  · clear hX
    intro x hx
    obtain ⟨s, hs, rfl⟩ := List.mem_map.mp hx
    have hd := dget_in ((sortS_perm _).mem_iff.mp hs)
    by_cases z : total ks s = 0
    · have z' : (total ks s = 0) = True := eq_true z
      simp (disch := first | omega | (apply cmx <;> omega) | (apply dvok <;> omega) | decide | fail) only [runD, s_cons, s_nil, s_frz, s_fgt, seq_next, seq_ret, seq_err, s_ifs, if_t, if_f, s_fors, s_whl, s_asg, s_nm_fz, s_nm_fr, s_tp, s_ret, s_rse, s_put, s_app, s_ext, s_par, e_and, e_or, and_t, and_f, or_t, or_f, test_bl, e_lc, ev.eq_1, ev.eq_2, ev.eq_3, ev.eq_4, ev.eq_5, ev.eq_6, ev.eq_7, ev.eq_8, ev.eq_9, ev.eq_12, ev.eq_13, ev.eq_14, ev.eq_15, ev.eq_16, ev.eq_17, ev.eq_18, ev.eq_19, ev.eq_20, ev.eq_21, ev.eq_22, ev.eq_23, evs, evo, evIt, MP.R.bind_ok, MP.R.bind_err, notBo_fz, notBo_fr, retK_fz, retK_fr, retK_bo, noErr_ok, binD.eq_1, binD.eq_2, binD.eq_3, binD.eq_4, binD.eq_5, binD.eq_6, binD.eq_7, binD.eq_8, binD.eq_9, binD.eq_10, binD.eq_11, cmpD.eq_1, cmpD.eq_2, cmpD.eq_3, cmpD.eq_4, cmpD.eq_5, cmpD.eq_6, cmpD.eq_7, cmpD.eq_8, cmpD.eq_9, cmpD.eq_10, cmpD.eq_11, cmpD.eq_12, cmpD.eq_13, ixD.eq_1, ixD.eq_2, ixD.eq_3, ixD.eq_4, ixD.eq_5, biD.eq_1, biD.eq_2, biD.eq_3, biD.eq_4, biD.eq_5, biD.eq_6, biD.eq_7, biD.eq_8, biD.eq_9, biD.eq_10, biD.eq_11, biD.eq_12, biD.eq_13, biD.eq_14, biD.eq_15, biD.eq_16, biD.eq_17, biD.eq_18, biD.eq_19, biD.eq_20, biD.eq_21, biD.eq_22, biD.eq_23, slD.eq_1, slD.eq_2, slD.eq_3, negD.eq_1, isi_int_int, isi_int_bool, isi_str_str, isi_tup_tup, notBos, asInt, asStr, asDic, rOpt, optOk, callD, isBo, bindTg, bindSlots, wipeD, ownL, ownK, ownAt, appD, extD.eq_1, putD.eq_1, putD.eq_2, setOwn, freeze, itemsD.eq_1, itemsD.eq_2, itemsD.eq_3, rng1D.eq_1, rng2D.eq_1, small62, Int.toNat_natCast, turnF, turnL, cast0, cast1, cast2, cast3, cast4, decide_true, decide_false,  freeze, app_len, rep_len,  inD.eq_1, inD.eq_2, inD.eq_3, tyD, MP.isNon, optCons, grd_T, slots_cons, slots_nil, immut, immuts, Option.map_some, Option.map_none, Option.getD_some, Option.getD_none, Option.bind_some, List.getElem?_cons_zero, List.getElem?_cons_succ, List.set_cons_zero, List.set_cons_succ, List.map_cons, List.map_nil, List.any_cons, List.any_nil, List.length_cons, List.length_nil, Nat.reduceAdd, Nat.reduceSub, List.replicate_succ, List.replicate_zero, List.cons_append, List.nil_append, Bool.or_false, Bool.false_and, Bool.and_false, Bool.false_eq_true, if_false, if_true, reduceIte, Bool.not_true, Bool.not_false, ne_eq, not_false_eq_true, and_true, true_and, and_self, Int.reduceEq, Int.reduceNe, not_true_eq_false, Int.reduceToNat, Int.reducePow, Int.reduceMul, Int.reduceAdd, Int.reduceSub, Int.reduceNeg, Nat.reduceLT, okD_int, okD_non, okD_bl, eqD_int, grd_pos, hd, z', decide_true, madeF]
    · have z' : (total ks s = 0) = False := eq_false z
      simp (disch := first | omega | (apply cmx <;> omega) | (apply dvok <;> omega) | decide | fail) only [runD, s_cons, s_nil, s_frz, s_fgt, seq_next, seq_ret, seq_err, s_ifs, if_t, if_f, s_fors, s_whl, s_asg, s_nm_fz, s_nm_fr, s_tp, s_ret, s_rse, s_put, s_app, s_ext, s_par, e_and, e_or, and_t, and_f, or_t, or_f, test_bl, e_lc, ev.eq_1, ev.eq_2, ev.eq_3, ev.eq_4, ev.eq_5, ev.eq_6, ev.eq_7, ev.eq_8, ev.eq_9, ev.eq_12, ev.eq_13, ev.eq_14, ev.eq_15, ev.eq_16, ev.eq_17, ev.eq_18, ev.eq_19, ev.eq_20, ev.eq_21, ev.eq_22, ev.eq_23, evs, evo, evIt, MP.R.bind_ok, MP.R.bind_err, notBo_fz, notBo_fr, retK_fz, retK_fr, retK_bo, noErr_ok, binD.eq_1, binD.eq_2, binD.eq_3, binD.eq_4, binD.eq_5, binD.eq_6, binD.eq_7, binD.eq_8, binD.eq_9, binD.eq_10, binD.eq_11, cmpD.eq_1, cmpD.eq_2, cmpD.eq_3, cmpD.eq_4, cmpD.eq_5, cmpD.eq_6, cmpD.eq_7, cmpD.eq_8, cmpD.eq_9, cmpD.eq_10, cmpD.eq_11, cmpD.eq_12, cmpD.eq_13, ixD.eq_1, ixD.eq_2, ixD.eq_3, ixD.eq_4, ixD.eq_5, biD.eq_1, biD.eq_2, biD.eq_3, biD.eq_4, biD.eq_5, biD.eq_6, biD.eq_7, biD.eq_8, biD.eq_9, biD.eq_10, biD.eq_11, biD.eq_12, biD.eq_13, biD.eq_14, biD.eq_15, biD.eq_16, biD.eq_17, biD.eq_18, biD.eq_19, biD.eq_20, biD.eq_21, biD.eq_22, biD.eq_23, slD.eq_1, slD.eq_2, slD.eq_3, negD.eq_1, isi_int_int, isi_int_bool, isi_str_str, isi_tup_tup, notBos, asInt, asStr, asDic, rOpt, optOk, callD, isBo, bindTg, bindSlots, wipeD, ownL, ownK, ownAt, appD, extD.eq_1, putD.eq_1, putD.eq_2, setOwn, freeze, itemsD.eq_1, itemsD.eq_2, itemsD.eq_3, rng1D.eq_1, rng2D.eq_1, small62, Int.toNat_natCast, turnF, turnL, cast0, cast1, cast2, cast3, cast4, decide_true, decide_false,  freeze, app_len, rep_len,  inD.eq_1, inD.eq_2, inD.eq_3, tyD, MP.isNon, optCons, grd_T, slots_cons, slots_nil, immut, immuts, Option.map_some, Option.map_none, Option.getD_some, Option.getD_none, Option.bind_some, List.getElem?_cons_zero, List.getElem?_cons_succ, List.set_cons_zero, List.set_cons_succ, List.map_cons, List.map_nil, List.any_cons, List.any_nil, List.length_cons, List.length_nil, Nat.reduceAdd, Nat.reduceSub, List.replicate_succ, List.replicate_zero, List.cons_append, List.nil_append, Bool.or_false, Bool.false_and, Bool.and_false, Bool.false_eq_true, if_false, if_true, reduceIte, Bool.not_true, Bool.not_false, ne_eq, not_false_eq_true, and_true, true_and, and_self, Int.reduceEq, Int.reduceNe, not_true_eq_false, Int.reduceToNat, Int.reducePow, Int.reduceMul, Int.reduceAdd, Int.reduceSub, Int.reduceNeg, Nat.reduceLT, okD_int, okD_non, okD_bl, eqD_int, grd_pos, hd, z', decide_false, madeF]
      rfl
theorem whole_eq (i : Int) : m__law_whole [.int i] = .ok (.bl true, .fz) := by
  unfold m__law_whole ir__law_whole
  simp (disch := first | omega | (apply cmx <;> omega) | (apply dvok <;> omega) | decide | fail) only [isi_int_int, isi_int_bool, runD, s_cons, s_nil, s_frz, s_fgt, seq_next, seq_ret, seq_err, s_ifs, if_t, if_f, s_fors, s_whl, s_asg, s_nm_fz, s_nm_fr, s_tp, s_ret, s_rse, s_put, s_app, s_ext, s_par, e_and, e_or, and_t, and_f, or_t, or_f, test_bl, e_lc, ev.eq_1, ev.eq_2, ev.eq_3, ev.eq_4, ev.eq_5, ev.eq_6, ev.eq_7, ev.eq_8, ev.eq_9, ev.eq_12, ev.eq_13, ev.eq_14, ev.eq_15, ev.eq_16, ev.eq_17, ev.eq_18, ev.eq_19, ev.eq_20, ev.eq_21, ev.eq_22, ev.eq_23, evs, evo, evIt, MP.R.bind_ok, MP.R.bind_err, notBo_fz, notBo_fr, retK_fz, retK_fr, retK_bo, noErr_ok, binD.eq_1, binD.eq_2, binD.eq_3, binD.eq_4, binD.eq_5, binD.eq_6, binD.eq_7, binD.eq_8, binD.eq_9, binD.eq_10, binD.eq_11, cmpD.eq_1, cmpD.eq_2, cmpD.eq_3, cmpD.eq_4, cmpD.eq_5, cmpD.eq_6, cmpD.eq_7, cmpD.eq_8, cmpD.eq_9, cmpD.eq_10, cmpD.eq_11, cmpD.eq_12, cmpD.eq_13, ixD.eq_1, ixD.eq_2, ixD.eq_3, ixD.eq_4, ixD.eq_5, biD.eq_1, biD.eq_2, biD.eq_3, biD.eq_4, biD.eq_5, biD.eq_6, biD.eq_7, biD.eq_8, biD.eq_9, biD.eq_10, biD.eq_11, biD.eq_12, biD.eq_13, biD.eq_14, biD.eq_15, biD.eq_16, biD.eq_17, biD.eq_18, biD.eq_19, biD.eq_20, biD.eq_21, biD.eq_22, biD.eq_23, slD.eq_1, slD.eq_2, slD.eq_3, negD.eq_1, isi_int_int, isi_int_bool, isi_str_str, isi_tup_tup, notBos, asInt, asStr, asDic, rOpt, optOk, callD, isBo, bindTg, bindSlots, wipeD, ownL, ownK, ownAt, appD, extD.eq_1, putD.eq_1, putD.eq_2, setOwn, freeze, itemsD.eq_1, itemsD.eq_2, itemsD.eq_3, rng1D.eq_1, rng2D.eq_1, small62, Int.toNat_natCast, turnF, turnL, cast0, cast1, cast2, cast3, cast4, decide_true, decide_false,  freeze, app_len, rep_len,  inD.eq_1, inD.eq_2, inD.eq_3, tyD, MP.isNon, optCons, grd_T, slots_cons, slots_nil, immut, immuts, Option.map_some, Option.map_none, Option.getD_some, Option.getD_none, Option.bind_some, List.getElem?_cons_zero, List.getElem?_cons_succ, List.set_cons_zero, List.set_cons_succ, List.map_cons, List.map_nil, List.any_cons, List.any_nil, List.length_cons, List.length_nil, Nat.reduceAdd, Nat.reduceSub, List.replicate_succ, List.replicate_zero, List.cons_append, List.nil_append, Bool.or_false, Bool.false_and, Bool.and_false, Bool.false_eq_true, if_false, if_true, reduceIte, Bool.not_true, Bool.not_false, ne_eq, not_false_eq_true, and_true, true_and, and_self, Int.reduceEq, Int.reduceNe, not_true_eq_false, Int.reduceToNat, Int.reducePow, Int.reduceMul, Int.reduceAdd, Int.reduceSub, Int.reduceNeg, Nat.reduceLT, okD_int, okD_non, okD_bl, eqD_int, grd_pos]
theorem is_measure_eq {ms : Ms} (h : Meas ms) : m__law_is_measure [msD ms] = .ok (.bl true, .fz) := by
  unfold m__law_is_measure ir__law_is_measure msD
  simp (disch := first | omega | (apply cmx <;> omega) | (apply dvok <;> omega) | decide | fail) only [isi_tup_tup, runD, s_cons, s_nil, s_frz, s_fgt, seq_next, seq_ret, seq_err, s_ifs, if_t, if_f, s_fors, s_whl, s_asg, s_nm_fz, s_nm_fr, s_tp, s_ret, s_rse, s_put, s_app, s_ext, s_par, e_and, e_or, and_t, and_f, or_t, or_f, test_bl, e_lc, ev.eq_1, ev.eq_2, ev.eq_3, ev.eq_4, ev.eq_5, ev.eq_6, ev.eq_7, ev.eq_8, ev.eq_9, ev.eq_12, ev.eq_13, ev.eq_14, ev.eq_15, ev.eq_16, ev.eq_17, ev.eq_18, ev.eq_19, ev.eq_20, ev.eq_21, ev.eq_22, ev.eq_23, evs, evo, evIt, MP.R.bind_ok, MP.R.bind_err, notBo_fz, notBo_fr, retK_fz, retK_fr, retK_bo, noErr_ok, binD.eq_1, binD.eq_2, binD.eq_3, binD.eq_4, binD.eq_5, binD.eq_6, binD.eq_7, binD.eq_8, binD.eq_9, binD.eq_10, binD.eq_11, cmpD.eq_1, cmpD.eq_2, cmpD.eq_3, cmpD.eq_4, cmpD.eq_5, cmpD.eq_6, cmpD.eq_7, cmpD.eq_8, cmpD.eq_9, cmpD.eq_10, cmpD.eq_11, cmpD.eq_12, cmpD.eq_13, ixD.eq_1, ixD.eq_2, ixD.eq_3, ixD.eq_4, ixD.eq_5, biD.eq_1, biD.eq_2, biD.eq_3, biD.eq_4, biD.eq_5, biD.eq_6, biD.eq_7, biD.eq_8, biD.eq_9, biD.eq_10, biD.eq_11, biD.eq_12, biD.eq_13, biD.eq_14, biD.eq_15, biD.eq_16, biD.eq_17, biD.eq_18, biD.eq_19, biD.eq_20, biD.eq_21, biD.eq_22, biD.eq_23, slD.eq_1, slD.eq_2, slD.eq_3, negD.eq_1, isi_int_int, isi_int_bool, isi_str_str, isi_tup_tup, notBos, asInt, asStr, asDic, rOpt, optOk, callD, isBo, bindTg, bindSlots, wipeD, ownL, ownK, ownAt, appD, extD.eq_1, putD.eq_1, putD.eq_2, setOwn, freeze, itemsD.eq_1, itemsD.eq_2, itemsD.eq_3, rng1D.eq_1, rng2D.eq_1, small62, Int.toNat_natCast, turnF, turnL, cast0, cast1, cast2, cast3, cast4, decide_true, decide_false,  freeze, app_len, rep_len,  inD.eq_1, inD.eq_2, inD.eq_3, tyD, MP.isNon, optCons, grd_T, slots_cons, slots_nil, immut, immuts, Option.map_some, Option.map_none, Option.getD_some, Option.getD_none, Option.bind_some, List.getElem?_cons_zero, List.getElem?_cons_succ, List.set_cons_zero, List.set_cons_succ, List.map_cons, List.map_nil, List.any_cons, List.any_nil, List.length_cons, List.length_nil, Nat.reduceAdd, Nat.reduceSub, List.replicate_succ, List.replicate_zero, List.cons_append, List.nil_append, Bool.or_false, Bool.false_and, Bool.and_false, Bool.false_eq_true, if_false, if_true, reduceIte, Bool.not_true, Bool.not_false, ne_eq, not_false_eq_true, and_true, true_and, and_self, Int.reduceEq, Int.reduceNe, not_true_eq_false, Int.reduceToNat, Int.reducePow, Int.reduceMul, Int.reduceAdd, Int.reduceSub, Int.reduceNeg, Nat.reduceLT, okD_int, okD_non, okD_bl, eqD_int, grd_pos]
  generalize hX : exFor _ _ _ _ = X
  refine for_inv hX (fun xs σ => ∃ (rs : Ms) (a : Str), xs = rs.map mpD ∧ σ = [some (.tup (ms.map mpD), false), some (.str a, false), none] ∧ (∀ p ∈ rs, strLt a p.1 = true) ∧ (rs.Pairwise fun p q => strLt p.1 q.1 = true) ∧ ∀ p ∈ rs, p.2 ≠ 0)
    ⟨ms, _, rfl, rfl, fun p hp => (h.lt p hp).1, h.up, h.nz⟩ ?step ?rest
  case step =>
    clear hX
    rintro x xs σ ⟨rs, a, e, rfl, ha, hp, hz⟩
    cases rs with
    | nil => cases e
    | cons p rs =>
      rw [List.map_cons] at e
      cases e
      have hl := ha p List.mem_cons_self
      have hn := hz p List.mem_cons_self
      have hn' : (p.2 = 0) = False := eq_false hn
      rw [List.pairwise_cons] at hp
      unfold mpD
      have c0 : atI [D.str p.1, D.int p.2] 0 = some (.str p.1) := rfl
      have c1 : atI [D.str p.1, D.int p.2] 1 = some (.int p.2) := rfl
      simp (disch := first | omega | (apply cmx <;> omega) | (apply dvok <;> omega) | decide | fail) only [isi_tup_tup, isi_str_str, le_str, whole_eq, c0, c1, runD, s_cons, s_nil, s_frz, s_fgt, seq_next, seq_ret, seq_err, s_ifs, if_t, if_f, s_fors, s_whl, s_asg, s_nm_fz, s_nm_fr, s_tp, s_ret, s_rse, s_put, s_app, s_ext, s_par, e_and, e_or, and_t, and_f, or_t, or_f, test_bl, e_lc, ev.eq_1, ev.eq_2, ev.eq_3, ev.eq_4, ev.eq_5, ev.eq_6, ev.eq_7, ev.eq_8, ev.eq_9, ev.eq_12, ev.eq_13, ev.eq_14, ev.eq_15, ev.eq_16, ev.eq_17, ev.eq_18, ev.eq_19, ev.eq_20, ev.eq_21, ev.eq_22, ev.eq_23, evs, evo, evIt, MP.R.bind_ok, MP.R.bind_err, notBo_fz, notBo_fr, retK_fz, retK_fr, retK_bo, noErr_ok, binD.eq_1, binD.eq_2, binD.eq_3, binD.eq_4, binD.eq_5, binD.eq_6, binD.eq_7, binD.eq_8, binD.eq_9, binD.eq_10, binD.eq_11, cmpD.eq_1, cmpD.eq_2, cmpD.eq_3, cmpD.eq_4, cmpD.eq_5, cmpD.eq_6, cmpD.eq_7, cmpD.eq_8, cmpD.eq_9, cmpD.eq_10, cmpD.eq_11, cmpD.eq_12, cmpD.eq_13, ixD.eq_1, ixD.eq_2, ixD.eq_3, ixD.eq_4, ixD.eq_5, biD.eq_1, biD.eq_2, biD.eq_3, biD.eq_4, biD.eq_5, biD.eq_6, biD.eq_7, biD.eq_8, biD.eq_9, biD.eq_10, biD.eq_11, biD.eq_12, biD.eq_13, biD.eq_14, biD.eq_15, biD.eq_16, biD.eq_17, biD.eq_18, biD.eq_19, biD.eq_20, biD.eq_21, biD.eq_22, biD.eq_23, slD.eq_1, slD.eq_2, slD.eq_3, negD.eq_1, isi_int_int, isi_int_bool, isi_str_str, isi_tup_tup, notBos, asInt, asStr, asDic, rOpt, optOk, callD, isBo, bindTg, bindSlots, wipeD, ownL, ownK, ownAt, appD, extD.eq_1, putD.eq_1, putD.eq_2, setOwn, freeze, itemsD.eq_1, itemsD.eq_2, itemsD.eq_3, rng1D.eq_1, rng2D.eq_1, small62, Int.toNat_natCast, turnF, turnL, cast0, cast1, cast2, cast3, cast4, decide_true, decide_false,  freeze, app_len, rep_len,  inD.eq_1, inD.eq_2, inD.eq_3, tyD, MP.isNon, optCons, grd_T, slots_cons, slots_nil, immut, immuts, Option.map_some, Option.map_none, Option.getD_some, Option.getD_none, Option.bind_some, List.getElem?_cons_zero, List.getElem?_cons_succ, List.set_cons_zero, List.set_cons_succ, List.map_cons, List.map_nil, List.any_cons, List.any_nil, List.length_cons, List.length_nil, Nat.reduceAdd, Nat.reduceSub, List.replicate_succ, List.replicate_zero, List.cons_append, List.nil_append, Bool.or_false, Bool.false_and, Bool.and_false, Bool.false_eq_true, if_false, if_true, reduceIte, Bool.not_true, Bool.not_false, ne_eq, not_false_eq_true, and_true, true_and, and_self, Int.reduceEq, Int.reduceNe, not_true_eq_false, Int.reduceToNat, Int.reducePow, Int.reduceMul, Int.reduceAdd, Int.reduceSub, Int.reduceNeg, Nat.reduceLT, okD_int, okD_non, okD_bl, eqD_int, grd_pos, hl, hn', decide_true, decide_false]
      refine ⟨_, rfl, rs, p.1, rfl, rfl, hp.1, hp.2, fun q hq => hz q (List.mem_cons_of_mem _ hq)⟩
  case rest =>
    rintro σ' ⟨rs, a, e, rfl, _⟩ rfl
    simp (disch := first | omega | (apply cmx <;> omega) | (apply dvok <;> omega) | decide | fail) only [runD, s_cons, s_nil, s_frz, s_fgt, seq_next, seq_ret, seq_err, s_ifs, if_t, if_f, s_fors, s_whl, s_asg, s_nm_fz, s_nm_fr, s_tp, s_ret, s_rse, s_put, s_app, s_ext, s_par, e_and, e_or, and_t, and_f, or_t, or_f, test_bl, e_lc, ev.eq_1, ev.eq_2, ev.eq_3, ev.eq_4, ev.eq_5, ev.eq_6, ev.eq_7, ev.eq_8, ev.eq_9, ev.eq_12, ev.eq_13, ev.eq_14, ev.eq_15, ev.eq_16, ev.eq_17, ev.eq_18, ev.eq_19, ev.eq_20, ev.eq_21, ev.eq_22, ev.eq_23, evs, evo, evIt, MP.R.bind_ok, MP.R.bind_err, notBo_fz, notBo_fr, retK_fz, retK_fr, retK_bo, noErr_ok, binD.eq_1, binD.eq_2, binD.eq_3, binD.eq_4, binD.eq_5, binD.eq_6, binD.eq_7, binD.eq_8, binD.eq_9, binD.eq_10, binD.eq_11, cmpD.eq_1, cmpD.eq_2, cmpD.eq_3, cmpD.eq_4, cmpD.eq_5, cmpD.eq_6, cmpD.eq_7, cmpD.eq_8, cmpD.eq_9, cmpD.eq_10, cmpD.eq_11, cmpD.eq_12, cmpD.eq_13, ixD.eq_1, ixD.eq_2, ixD.eq_3, ixD.eq_4, ixD.eq_5, biD.eq_1, biD.eq_2, biD.eq_3, biD.eq_4, biD.eq_5, biD.eq_6, biD.eq_7, biD.eq_8, biD.eq_9, biD.eq_10, biD.eq_11, biD.eq_12, biD.eq_13, biD.eq_14, biD.eq_15, biD.eq_16, biD.eq_17, biD.eq_18, biD.eq_19, biD.eq_20, biD.eq_21, biD.eq_22, biD.eq_23, slD.eq_1, slD.eq_2, slD.eq_3, negD.eq_1, isi_int_int, isi_int_bool, isi_str_str, isi_tup_tup, notBos, asInt, asStr, asDic, rOpt, optOk, callD, isBo, bindTg, bindSlots, wipeD, ownL, ownK, ownAt, appD, extD.eq_1, putD.eq_1, putD.eq_2, setOwn, freeze, itemsD.eq_1, itemsD.eq_2, itemsD.eq_3, rng1D.eq_1, rng2D.eq_1, small62, Int.toNat_natCast, turnF, turnL, cast0, cast1, cast2, cast3, cast4, decide_true, decide_false,  freeze, app_len, rep_len,  inD.eq_1, inD.eq_2, inD.eq_3, tyD, MP.isNon, optCons, grd_T, slots_cons, slots_nil, immut, immuts, Option.map_some, Option.map_none, Option.getD_some, Option.getD_none, Option.bind_some, List.getElem?_cons_zero, List.getElem?_cons_succ, List.set_cons_zero, List.set_cons_succ, List.map_cons, List.map_nil, List.any_cons, List.any_nil, List.length_cons, List.length_nil, Nat.reduceAdd, Nat.reduceSub, List.replicate_succ, List.replicate_zero, List.cons_append, List.nil_append, Bool.or_false, Bool.false_and, Bool.and_false, Bool.false_eq_true, if_false, if_true, reduceIte, Bool.not_true, Bool.not_false, ne_eq, not_false_eq_true, and_true, true_and, and_self, Int.reduceEq, Int.reduceNe, not_true_eq_false, Int.reduceToNat, Int.reducePow, Int.reduceMul, Int.reduceAdd, Int.reduceSub, Int.reduceNeg, Nat.reduceLT, okD_int, okD_non, okD_bl, eqD_int]
theorem lshared_eq (a b : Nat) : m__law_shared [.int a, .int b] = .ok (.int (Nat.gcd a b), .fz) := by
  unfold m__law_shared ir__law_shared
  simp (disch := first | omega | (apply cmx <;> omega) | (apply dvok <;> omega) | decide | fail) only [runD, s_cons, s_nil, s_frz, s_fgt, seq_next, seq_ret, seq_err, s_ifs, if_t, if_f, s_fors, s_whl, s_asg, s_nm_fz, s_nm_fr, s_tp, s_ret, s_rse, s_put, s_app, s_ext, s_par, e_and, e_or, and_t, and_f, or_t, or_f, test_bl, e_lc, ev.eq_1, ev.eq_2, ev.eq_3, ev.eq_4, ev.eq_5, ev.eq_6, ev.eq_7, ev.eq_8, ev.eq_9, ev.eq_12, ev.eq_13, ev.eq_14, ev.eq_15, ev.eq_16, ev.eq_17, ev.eq_18, ev.eq_19, ev.eq_20, ev.eq_21, ev.eq_22, ev.eq_23, evs, evo, evIt, MP.R.bind_ok, MP.R.bind_err, notBo_fz, notBo_fr, retK_fz, retK_fr, retK_bo, noErr_ok, binD.eq_1, binD.eq_2, binD.eq_3, binD.eq_4, binD.eq_5, binD.eq_6, binD.eq_7, binD.eq_8, binD.eq_9, binD.eq_10, binD.eq_11, cmpD.eq_1, cmpD.eq_2, cmpD.eq_3, cmpD.eq_4, cmpD.eq_5, cmpD.eq_6, cmpD.eq_7, cmpD.eq_8, cmpD.eq_9, cmpD.eq_10, cmpD.eq_11, cmpD.eq_12, cmpD.eq_13, ixD.eq_1, ixD.eq_2, ixD.eq_3, ixD.eq_4, ixD.eq_5, biD.eq_1, biD.eq_2, biD.eq_3, biD.eq_4, biD.eq_5, biD.eq_6, biD.eq_7, biD.eq_8, biD.eq_9, biD.eq_10, biD.eq_11, biD.eq_12, biD.eq_13, biD.eq_14, biD.eq_15, biD.eq_16, biD.eq_17, biD.eq_18, biD.eq_19, biD.eq_20, biD.eq_21, biD.eq_22, biD.eq_23, slD.eq_1, slD.eq_2, slD.eq_3, negD.eq_1, isi_int_int, isi_int_bool, isi_str_str, isi_tup_tup, notBos, asInt, asStr, asDic, rOpt, optOk, callD, isBo, bindTg, bindSlots, wipeD, ownL, ownK, ownAt, appD, extD.eq_1, putD.eq_1, putD.eq_2, setOwn, freeze, itemsD.eq_1, itemsD.eq_2, itemsD.eq_3, rng1D.eq_1, rng2D.eq_1, small62, Int.toNat_natCast, turnF, turnL, cast0, cast1, cast2, cast3, cast4, decide_true, decide_false,  freeze, app_len, rep_len,  inD.eq_1, inD.eq_2, inD.eq_3, tyD, MP.isNon, optCons, grd_T, slots_cons, slots_nil, immut, immuts, Option.map_some, Option.map_none, Option.getD_some, Option.getD_none, Option.bind_some, List.getElem?_cons_zero, List.getElem?_cons_succ, List.set_cons_zero, List.set_cons_succ, List.map_cons, List.map_nil, List.any_cons, List.any_nil, List.length_cons, List.length_nil, Nat.reduceAdd, Nat.reduceSub, List.replicate_succ, List.replicate_zero, List.cons_append, List.nil_append, Bool.or_false, Bool.false_and, Bool.and_false, Bool.false_eq_true, if_false, if_true, reduceIte, Bool.not_true, Bool.not_false, ne_eq, not_false_eq_true, and_true, true_and, and_self, Int.reduceEq, Int.reduceNe, not_true_eq_false, Int.reduceToNat, Int.reducePow, Int.reduceMul, Int.reduceAdd, Int.reduceSub, Int.reduceNeg, Nat.reduceLT, okD_int, okD_non, okD_bl, eqD_int, fuel__law_shared_0, fuelI, Int.natAbs_natCast]
  generalize hX : exWhile _ _ _ _ _ = X
  rw [while_gcdG hX (fun a b => [some (.int a, false), some (.int b, false), none]) a b rfl (Nat.lt_succ_self b) ?hc ?hb fun _ _ => rfl]
  · simp (disch := first | omega | (apply cmx <;> omega) | (apply dvok <;> omega) | decide | fail) only [runD, s_cons, s_nil, s_frz, s_fgt, seq_next, seq_ret, seq_err, s_ifs, if_t, if_f, s_fors, s_whl, s_asg, s_nm_fz, s_nm_fr, s_tp, s_ret, s_rse, s_put, s_app, s_ext, s_par, e_and, e_or, and_t, and_f, or_t, or_f, test_bl, e_lc, ev.eq_1, ev.eq_2, ev.eq_3, ev.eq_4, ev.eq_5, ev.eq_6, ev.eq_7, ev.eq_8, ev.eq_9, ev.eq_12, ev.eq_13, ev.eq_14, ev.eq_15, ev.eq_16, ev.eq_17, ev.eq_18, ev.eq_19, ev.eq_20, ev.eq_21, ev.eq_22, ev.eq_23, evs, evo, evIt, MP.R.bind_ok, MP.R.bind_err, notBo_fz, notBo_fr, retK_fz, retK_fr, retK_bo, noErr_ok, binD.eq_1, binD.eq_2, binD.eq_3, binD.eq_4, binD.eq_5, binD.eq_6, binD.eq_7, binD.eq_8, binD.eq_9, binD.eq_10, binD.eq_11, cmpD.eq_1, cmpD.eq_2, cmpD.eq_3, cmpD.eq_4, cmpD.eq_5, cmpD.eq_6, cmpD.eq_7, cmpD.eq_8, cmpD.eq_9, cmpD.eq_10, cmpD.eq_11, cmpD.eq_12, cmpD.eq_13, ixD.eq_1, ixD.eq_2, ixD.eq_3, ixD.eq_4, ixD.eq_5, biD.eq_1, biD.eq_2, biD.eq_3, biD.eq_4, biD.eq_5, biD.eq_6, biD.eq_7, biD.eq_8, biD.eq_9, biD.eq_10, biD.eq_11, biD.eq_12, biD.eq_13, biD.eq_14, biD.eq_15, biD.eq_16, biD.eq_17, biD.eq_18, biD.eq_19, biD.eq_20, biD.eq_21, biD.eq_22, biD.eq_23, slD.eq_1, slD.eq_2, slD.eq_3, negD.eq_1, isi_int_int, isi_int_bool, isi_str_str, isi_tup_tup, notBos, asInt, asStr, asDic, rOpt, optOk, callD, isBo, bindTg, bindSlots, wipeD, ownL, ownK, ownAt, appD, extD.eq_1, putD.eq_1, putD.eq_2, setOwn, freeze, itemsD.eq_1, itemsD.eq_2, itemsD.eq_3, rng1D.eq_1, rng2D.eq_1, small62, Int.toNat_natCast, turnF, turnL, cast0, cast1, cast2, cast3, cast4, decide_true, decide_false,  freeze, app_len, rep_len,  inD.eq_1, inD.eq_2, inD.eq_3, tyD, MP.isNon, optCons, grd_T, slots_cons, slots_nil, immut, immuts, Option.map_some, Option.map_none, Option.getD_some, Option.getD_none, Option.bind_some, List.getElem?_cons_zero, List.getElem?_cons_succ, List.set_cons_zero, List.set_cons_succ, List.map_cons, List.map_nil, List.any_cons, List.any_nil, List.length_cons, List.length_nil, Nat.reduceAdd, Nat.reduceSub, List.replicate_succ, List.replicate_zero, List.cons_append, List.nil_append, Bool.or_false, Bool.false_and, Bool.and_false, Bool.false_eq_true, if_false, if_true, reduceIte, Bool.not_true, Bool.not_false, ne_eq, not_false_eq_true, and_true, true_and, and_self, Int.reduceEq, Int.reduceNe, not_true_eq_false, Int.reduceToNat, Int.reducePow, Int.reduceMul, Int.reduceAdd, Int.reduceSub, Int.reduceNeg, Nat.reduceLT, okD_int, okD_non, okD_bl, eqD_int]
  case hc =>
    intro a b
    unfold testW
    simp (disch := first | omega | (apply cmx <;> omega) | (apply dvok <;> omega) | decide | fail) only [runD, s_cons, s_nil, s_frz, s_fgt, seq_next, seq_ret, seq_err, s_ifs, if_t, if_f, s_fors, s_whl, s_asg, s_nm_fz, s_nm_fr, s_tp, s_ret, s_rse, s_put, s_app, s_ext, s_par, e_and, e_or, and_t, and_f, or_t, or_f, test_bl, e_lc, ev.eq_1, ev.eq_2, ev.eq_3, ev.eq_4, ev.eq_5, ev.eq_6, ev.eq_7, ev.eq_8, ev.eq_9, ev.eq_12, ev.eq_13, ev.eq_14, ev.eq_15, ev.eq_16, ev.eq_17, ev.eq_18, ev.eq_19, ev.eq_20, ev.eq_21, ev.eq_22, ev.eq_23, evs, evo, evIt, MP.R.bind_ok, MP.R.bind_err, notBo_fz, notBo_fr, retK_fz, retK_fr, retK_bo, noErr_ok, binD.eq_1, binD.eq_2, binD.eq_3, binD.eq_4, binD.eq_5, binD.eq_6, binD.eq_7, binD.eq_8, binD.eq_9, binD.eq_10, binD.eq_11, cmpD.eq_1, cmpD.eq_2, cmpD.eq_3, cmpD.eq_4, cmpD.eq_5, cmpD.eq_6, cmpD.eq_7, cmpD.eq_8, cmpD.eq_9, cmpD.eq_10, cmpD.eq_11, cmpD.eq_12, cmpD.eq_13, ixD.eq_1, ixD.eq_2, ixD.eq_3, ixD.eq_4, ixD.eq_5, biD.eq_1, biD.eq_2, biD.eq_3, biD.eq_4, biD.eq_5, biD.eq_6, biD.eq_7, biD.eq_8, biD.eq_9, biD.eq_10, biD.eq_11, biD.eq_12, biD.eq_13, biD.eq_14, biD.eq_15, biD.eq_16, biD.eq_17, biD.eq_18, biD.eq_19, biD.eq_20, biD.eq_21, biD.eq_22, biD.eq_23, slD.eq_1, slD.eq_2, slD.eq_3, negD.eq_1, isi_int_int, isi_int_bool, isi_str_str, isi_tup_tup, notBos, asInt, asStr, asDic, rOpt, optOk, callD, isBo, bindTg, bindSlots, wipeD, ownL, ownK, ownAt, appD, extD.eq_1, putD.eq_1, putD.eq_2, setOwn, freeze, itemsD.eq_1, itemsD.eq_2, itemsD.eq_3, rng1D.eq_1, rng2D.eq_1, small62, Int.toNat_natCast, turnF, turnL, cast0, cast1, cast2, cast3, cast4, decide_true, decide_false,  freeze, app_len, rep_len,  inD.eq_1, inD.eq_2, inD.eq_3, tyD, MP.isNon, optCons, grd_T, slots_cons, slots_nil, immut, immuts, Option.map_some, Option.map_none, Option.getD_some, Option.getD_none, Option.bind_some, List.getElem?_cons_zero, List.getElem?_cons_succ, List.set_cons_zero, List.set_cons_succ, List.map_cons, List.map_nil, List.any_cons, List.any_nil, List.length_cons, List.length_nil, Nat.reduceAdd, Nat.reduceSub, List.replicate_succ, List.replicate_zero, List.cons_append, List.nil_append, Bool.or_false, Bool.false_and, Bool.and_false, Bool.false_eq_true, if_false, if_true, reduceIte, Bool.not_true, Bool.not_false, ne_eq, not_false_eq_true, and_true, true_and, and_self, Int.reduceEq, Int.reduceNe, not_true_eq_false, Int.reduceToNat, Int.reducePow, Int.reduceMul, Int.reduceAdd, Int.reduceSub, Int.reduceNeg, Nat.reduceLT, okD_int, okD_non, okD_bl, eqD_int]
    by_cases z : b = 0
    · simp [z]
    · have : ¬ ((b : Int) = 0) := by omega
      simp [z]
  case hb =>
    intro a b z
    unfold turnW
    have z' : ((b : Int) = 0) = False := eq_false (by omega)
    simp (disch := first | omega | (apply cmx <;> omega) | (apply dvok <;> omega) | decide | fail) only [runD, s_cons, s_nil, s_frz, s_fgt, seq_next, seq_ret, seq_err, s_ifs, if_t, if_f, s_fors, s_whl, s_asg, s_nm_fz, s_nm_fr, s_tp, s_ret, s_rse, s_put, s_app, s_ext, s_par, e_and, e_or, and_t, and_f, or_t, or_f, test_bl, e_lc, ev.eq_1, ev.eq_2, ev.eq_3, ev.eq_4, ev.eq_5, ev.eq_6, ev.eq_7, ev.eq_8, ev.eq_9, ev.eq_12, ev.eq_13, ev.eq_14, ev.eq_15, ev.eq_16, ev.eq_17, ev.eq_18, ev.eq_19, ev.eq_20, ev.eq_21, ev.eq_22, ev.eq_23, evs, evo, evIt, MP.R.bind_ok, MP.R.bind_err, notBo_fz, notBo_fr, retK_fz, retK_fr, retK_bo, noErr_ok, binD.eq_1, binD.eq_2, binD.eq_3, binD.eq_4, binD.eq_5, binD.eq_6, binD.eq_7, binD.eq_8, binD.eq_9, binD.eq_10, binD.eq_11, cmpD.eq_1, cmpD.eq_2, cmpD.eq_3, cmpD.eq_4, cmpD.eq_5, cmpD.eq_6, cmpD.eq_7, cmpD.eq_8, cmpD.eq_9, cmpD.eq_10, cmpD.eq_11, cmpD.eq_12, cmpD.eq_13, ixD.eq_1, ixD.eq_2, ixD.eq_3, ixD.eq_4, ixD.eq_5, biD.eq_1, biD.eq_2, biD.eq_3, biD.eq_4, biD.eq_5, biD.eq_6, biD.eq_7, biD.eq_8, biD.eq_9, biD.eq_10, biD.eq_11, biD.eq_12, biD.eq_13, biD.eq_14, biD.eq_15, biD.eq_16, biD.eq_17, biD.eq_18, biD.eq_19, biD.eq_20, biD.eq_21, biD.eq_22, biD.eq_23, slD.eq_1, slD.eq_2, slD.eq_3, negD.eq_1, isi_int_int, isi_int_bool, isi_str_str, isi_tup_tup, notBos, asInt, asStr, asDic, rOpt, optOk, callD, isBo, bindTg, bindSlots, wipeD, ownL, ownK, ownAt, appD, extD.eq_1, putD.eq_1, putD.eq_2, setOwn, freeze, itemsD.eq_1, itemsD.eq_2, itemsD.eq_3, rng1D.eq_1, rng2D.eq_1, small62, Int.toNat_natCast, turnF, turnL, cast0, cast1, cast2, cast3, cast4, decide_true, decide_false,  freeze, app_len, rep_len,  inD.eq_1, inD.eq_2, inD.eq_3, tyD, MP.isNon, optCons, grd_T, slots_cons, slots_nil, immut, immuts, Option.map_some, Option.map_none, Option.getD_some, Option.getD_none, Option.bind_some, List.getElem?_cons_zero, List.getElem?_cons_succ, List.set_cons_zero, List.set_cons_succ, List.map_cons, List.map_nil, List.any_cons, List.any_nil, List.length_cons, List.length_nil, Nat.reduceAdd, Nat.reduceSub, List.replicate_succ, List.replicate_zero, List.cons_append, List.nil_append, Bool.or_false, Bool.false_and, Bool.and_false, Bool.false_eq_true, if_false, if_true, reduceIte, Bool.not_true, Bool.not_false, ne_eq, not_false_eq_true, and_true, true_and, and_self, Int.reduceEq, Int.reduceNe, not_true_eq_false, Int.reduceToNat, Int.reducePow, Int.reduceMul, Int.reduceAdd, Int.reduceSub, Int.reduceNeg, Nat.reduceLT, okD_int, okD_non, okD_bl, eqD_int, modN a b z, z', grd_pos]
    exact ⟨_, rfl, rfl⟩
theorem lowest_eq {a b : Int} (h : b ≠ 0) (hb : b.natAbs < 2 ^ 900) : m__law_lowest [.int a, .int b] = .ok (qD (frZ a b), .fz) := by
  have gp : 0 < Nat.gcd a.natAbs b.natAbs := Nat.gcd_pos_of_pos_right _ (by omega)
  have gl : Nat.gcd a.natAbs b.natAbs ≤ b.natAbs := Nat.gcd_le_right _ (by omega)
  have hm := mo_abs a b
  have dv := dvok2 (j := mo a b) (by omega) (by omega)
  have sh := lshared_eq a.natAbs b.natAbs
  unfold m__law_lowest ir__law_lowest
  by_cases n : b < 0
  · have e : mo a b = -(Nat.gcd a.natAbs b.natAbs : Int) := if_pos n
    have e0 : (0 : Int) - (Nat.gcd a.natAbs b.natAbs : Int) = mo a b := by omega
    have n' : (b < 0) = True := eq_true n
    have hbn : (b.natAbs : Int) = -b := by omega
    rw [hbn] at sh
    simp (disch := first | omega | (apply cmx <;> omega) | (apply dvok <;> omega) | decide | fail) only [runD, s_cons, s_nil, s_frz, s_fgt, seq_next, seq_ret, seq_err, s_ifs, if_t, if_f, s_fors, s_whl, s_asg, s_nm_fz, s_nm_fr, s_tp, s_ret, s_rse, s_put, s_app, s_ext, s_par, e_and, e_or, and_t, and_f, or_t, or_f, test_bl, e_lc, ev.eq_1, ev.eq_2, ev.eq_3, ev.eq_4, ev.eq_5, ev.eq_6, ev.eq_7, ev.eq_8, ev.eq_9, ev.eq_12, ev.eq_13, ev.eq_14, ev.eq_15, ev.eq_16, ev.eq_17, ev.eq_18, ev.eq_19, ev.eq_20, ev.eq_21, ev.eq_22, ev.eq_23, evs, evo, evIt, MP.R.bind_ok, MP.R.bind_err, notBo_fz, notBo_fr, retK_fz, retK_fr, retK_bo, noErr_ok, binD.eq_1, binD.eq_2, binD.eq_3, binD.eq_4, binD.eq_5, binD.eq_6, binD.eq_7, binD.eq_8, binD.eq_9, binD.eq_10, binD.eq_11, cmpD.eq_1, cmpD.eq_2, cmpD.eq_3, cmpD.eq_4, cmpD.eq_5, cmpD.eq_6, cmpD.eq_7, cmpD.eq_8, cmpD.eq_9, cmpD.eq_10, cmpD.eq_11, cmpD.eq_12, cmpD.eq_13, ixD.eq_1, ixD.eq_2, ixD.eq_3, ixD.eq_4, ixD.eq_5, biD.eq_1, biD.eq_2, biD.eq_3, biD.eq_4, biD.eq_5, biD.eq_6, biD.eq_7, biD.eq_8, biD.eq_9, biD.eq_10, biD.eq_11, biD.eq_12, biD.eq_13, biD.eq_14, biD.eq_15, biD.eq_16, biD.eq_17, biD.eq_18, biD.eq_19, biD.eq_20, biD.eq_21, biD.eq_22, biD.eq_23, slD.eq_1, slD.eq_2, slD.eq_3, negD.eq_1, isi_int_int, isi_int_bool, isi_str_str, isi_tup_tup, notBos, asInt, asStr, asDic, rOpt, optOk, callD, isBo, bindTg, bindSlots, wipeD, ownL, ownK, ownAt, appD, extD.eq_1, putD.eq_1, putD.eq_2, setOwn, freeze, itemsD.eq_1, itemsD.eq_2, itemsD.eq_3, rng1D.eq_1, rng2D.eq_1, small62, Int.toNat_natCast, turnF, turnL, cast0, cast1, cast2, cast3, cast4, decide_true, decide_false,  freeze, app_len, rep_len,  inD.eq_1, inD.eq_2, inD.eq_3, tyD, MP.isNon, optCons, grd_T, slots_cons, slots_nil, immut, immuts, Option.map_some, Option.map_none, Option.getD_some, Option.getD_none, Option.bind_some, List.getElem?_cons_zero, List.getElem?_cons_succ, List.set_cons_zero, List.set_cons_succ, List.map_cons, List.map_nil, List.any_cons, List.any_nil, List.length_cons, List.length_nil, Nat.reduceAdd, Nat.reduceSub, List.replicate_succ, List.replicate_zero, List.cons_append, List.nil_append, Bool.or_false, Bool.false_and, Bool.and_false, Bool.false_eq_true, if_false, if_true, reduceIte, Bool.not_true, Bool.not_false, ne_eq, not_false_eq_true, and_true, true_and, and_self, Int.reduceEq, Int.reduceNe, not_true_eq_false, Int.reduceToNat, Int.reducePow, Int.reduceMul, Int.reduceAdd, Int.reduceSub, Int.reduceNeg, Nat.reduceLT, okD_int, okD_non, okD_bl, eqD_int, absD, sh, n', e0, grd_pos dv, grd_pos]
    rfl
  · have e : mo a b = (Nat.gcd a.natAbs b.natAbs : Int) := if_neg n
    have n' : (b < 0) = False := eq_false n
    rw [e] at dv
    have hbn : (b.natAbs : Int) = b := by omega
    rw [hbn] at sh
    simp (disch := first | omega | (apply cmx <;> omega) | (apply dvok <;> omega) | decide | fail) only [runD, s_cons, s_nil, s_frz, s_fgt, seq_next, seq_ret, seq_err, s_ifs, if_t, if_f, s_fors, s_whl, s_asg, s_nm_fz, s_nm_fr, s_tp, s_ret, s_rse, s_put, s_app, s_ext, s_par, e_and, e_or, and_t, and_f, or_t, or_f, test_bl, e_lc, ev.eq_1, ev.eq_2, ev.eq_3, ev.eq_4, ev.eq_5, ev.eq_6, ev.eq_7, ev.eq_8, ev.eq_9, ev.eq_12, ev.eq_13, ev.eq_14, ev.eq_15, ev.eq_16, ev.eq_17, ev.eq_18, ev.eq_19, ev.eq_20, ev.eq_21, ev.eq_22, ev.eq_23, evs, evo, evIt, MP.R.bind_ok, MP.R.bind_err, notBo_fz, notBo_fr, retK_fz, retK_fr, retK_bo, noErr_ok, binD.eq_1, binD.eq_2, binD.eq_3, binD.eq_4, binD.eq_5, binD.eq_6, binD.eq_7, binD.eq_8, binD.eq_9, binD.eq_10, binD.eq_11, cmpD.eq_1, cmpD.eq_2, cmpD.eq_3, cmpD.eq_4, cmpD.eq_5, cmpD.eq_6, cmpD.eq_7, cmpD.eq_8, cmpD.eq_9, cmpD.eq_10, cmpD.eq_11, cmpD.eq_12, cmpD.eq_13, ixD.eq_1, ixD.eq_2, ixD.eq_3, ixD.eq_4, ixD.eq_5, biD.eq_1, biD.eq_2, biD.eq_3, biD.eq_4, biD.eq_5, biD.eq_6, biD.eq_7, biD.eq_8, biD.eq_9, biD.eq_10, biD.eq_11, biD.eq_12, biD.eq_13, biD.eq_14, biD.eq_15, biD.eq_16, biD.eq_17, biD.eq_18, biD.eq_19, biD.eq_20, biD.eq_21, biD.eq_22, biD.eq_23, slD.eq_1, slD.eq_2, slD.eq_3, negD.eq_1, isi_int_int, isi_int_bool, isi_str_str, isi_tup_tup, notBos, asInt, asStr, asDic, rOpt, optOk, callD, isBo, bindTg, bindSlots, wipeD, ownL, ownK, ownAt, appD, extD.eq_1, putD.eq_1, putD.eq_2, setOwn, freeze, itemsD.eq_1, itemsD.eq_2, itemsD.eq_3, rng1D.eq_1, rng2D.eq_1, small62, Int.toNat_natCast, turnF, turnL, cast0, cast1, cast2, cast3, cast4, decide_true, decide_false,  freeze, app_len, rep_len,  inD.eq_1, inD.eq_2, inD.eq_3, tyD, MP.isNon, optCons, grd_T, slots_cons, slots_nil, immut, immuts, Option.map_some, Option.map_none, Option.getD_some, Option.getD_none, Option.bind_some, List.getElem?_cons_zero, List.getElem?_cons_succ, List.set_cons_zero, List.set_cons_succ, List.map_cons, List.map_nil, List.any_cons, List.any_nil, List.length_cons, List.length_nil, Nat.reduceAdd, Nat.reduceSub, List.replicate_succ, List.replicate_zero, List.cons_append, List.nil_append, Bool.or_false, Bool.false_and, Bool.and_false, Bool.false_eq_true, if_false, if_true, reduceIte, Bool.not_true, Bool.not_false, ne_eq, not_false_eq_true, and_true, true_and, and_self, Int.reduceEq, Int.reduceNe, not_true_eq_false, Int.reduceToNat, Int.reducePow, Int.reduceMul, Int.reduceAdd, Int.reduceSub, Int.reduceNeg, Nat.reduceLT, okD_int, okD_non, okD_bl, eqD_int, absD, sh, n', grd_pos dv, grd_pos]
    unfold qD frZ
    rw [e]
end MPk07

namespace MPk07
open PySem PySem.Spec PyProof.Rows L2 MP
theorem lsmall_eq {c : Int} {ls : List Str} (h1 : 0 ≤ c) (h2 : c < 2 ^ 64) (l1 : 0 < ls.length) (l2 : ls.length ≤ 100) (hls : ∀ w ∈ ls, Ltr w) :
    ∃ m : Ms, m__law_small [.int c, .lst (ls.map .str)] = .ok (msD m, .fz) ∧ Bm 3 20 m ∧ ∀ p ∈ m, p.1 ∈ ls := by
  unfold m__law_small ir__law_small
  simp (disch := first | omega | (apply cmx <;> omega) | (apply dvok <;> omega) | decide | fail) only [runD, s_cons, s_nil, s_frz, s_fgt, seq_next, seq_ret, seq_err, s_ifs, if_t, if_f, s_fors, s_whl, s_asg, s_nm_fz, s_nm_fr, s_tp, s_ret, s_rse, s_put, s_app, s_ext, s_par, e_and, e_or, and_t, and_f, or_t, or_f, test_bl, e_lc, ev.eq_1, ev.eq_2, ev.eq_3, ev.eq_4, ev.eq_5, ev.eq_6, ev.eq_7, ev.eq_8, ev.eq_9, ev.eq_12, ev.eq_13, ev.eq_14, ev.eq_15, ev.eq_16, ev.eq_17, ev.eq_18, ev.eq_19, ev.eq_20, ev.eq_21, ev.eq_22, ev.eq_23, evs, evo, evIt, MP.R.bind_ok, MP.R.bind_err, notBo_fz, notBo_fr, retK_fz, retK_fr, retK_bo, noErr_ok, binD.eq_1, binD.eq_2, binD.eq_3, binD.eq_4, binD.eq_5, binD.eq_6, binD.eq_7, binD.eq_8, binD.eq_9, binD.eq_10, binD.eq_11, cmpD.eq_1, cmpD.eq_2, cmpD.eq_3, cmpD.eq_4, cmpD.eq_5, cmpD.eq_6, cmpD.eq_7, cmpD.eq_8, cmpD.eq_9, cmpD.eq_10, cmpD.eq_11, cmpD.eq_12, cmpD.eq_13, ixD.eq_1, ixD.eq_2, ixD.eq_3, ixD.eq_4, ixD.eq_5, biD.eq_1, biD.eq_2, biD.eq_3, biD.eq_4, biD.eq_5, biD.eq_6, biD.eq_7, biD.eq_8, biD.eq_9, biD.eq_10, biD.eq_11, biD.eq_12, biD.eq_13, biD.eq_14, biD.eq_15, biD.eq_16, biD.eq_17, biD.eq_18, biD.eq_19, biD.eq_20, biD.eq_21, biD.eq_22, biD.eq_23, slD.eq_1, slD.eq_2, slD.eq_3, negD.eq_1, isi_int_int, isi_int_bool, isi_str_str, isi_tup_tup, notBos, asInt, asStr, asDic, rOpt, optOk, callD, isBo, bindTg, bindSlots, wipeD, ownL, ownK, ownAt, appD, extD.eq_1, putD.eq_1, putD.eq_2, setOwn, freeze, itemsD.eq_1, itemsD.eq_2, itemsD.eq_3, rng1D.eq_1, rng2D.eq_1, small62, Int.toNat_natCast, turnF, turnL, cast0, cast1, cast2, cast3, cast4, decide_true, decide_false,  freeze, app_len, rep_len,  inD.eq_1, inD.eq_2, inD.eq_3, tyD, MP.isNon, optCons, grd_T, slots_cons, slots_nil, immut, immuts, Option.map_some, Option.map_none, Option.getD_some, Option.getD_none, Option.bind_some, List.getElem?_cons_zero, List.getElem?_cons_succ, List.set_cons_zero, List.set_cons_succ, List.map_cons, List.map_nil, List.any_cons, List.any_nil, List.length_cons, List.length_nil, Nat.reduceAdd, Nat.reduceSub, List.replicate_succ, List.replicate_zero, List.cons_append, List.nil_append, Bool.or_false, Bool.false_and, Bool.and_false, Bool.false_eq_true, if_false, if_true, reduceIte, Bool.not_true, Bool.not_false, ne_eq, not_false_eq_true, and_true, true_and, and_self, Int.reduceEq, Int.reduceNe, not_true_eq_false, Int.reduceToNat, Int.reducePow, Int.reduceMul, Int.reduceAdd, Int.reduceSub, Int.reduceNeg, Nat.reduceLT, okD_int, okD_non, okD_bl, eqD_int, grd_pos, fmodP, fdivP]
  generalize hX : exFor _ _ _ _ = X
  obtain ⟨n, hn, hn4⟩ : ∃ n : Nat, (c % 4).toNat = n ∧ n ≤ 3 := ⟨_, rfl, by omega⟩
  rw [hn] at hX
  refine for_range hX (fun k σ => ∃ acc : Ms, σ = [some (.int c, false), some (.lst (ls.map .str), false), some (.dic (dkI acc), true), none, none, none] ∧ (acc.map (·.1)).Nodup ∧ acc.length ≤ k ∧ (∀ s ∈ acc.map (·.1), s ∈ ls) ∧ ∀ p ∈ acc, -20 ≤ p.2 ∧ p.2 ≤ 20)
    ⟨[], rfl, by simp, by simp, by simp, by simp⟩ ?step ?rest
  case step =>
    clear hX
    rintro k σ hk ⟨acc, rfl, hn2, hl, hk2, hb⟩
    have em := mix_eq (c := c) (k := k) h1 (by omega) (by omega) (by omega)
    obtain ⟨z1, z2⟩ := mixZ_ge c k
    generalize mixZ c k = z at em z1 z2
    have q1 : 0 ≤ z % (ls.length : Int) := Int.emod_nonneg _ (by omega)
    have q2 : z % (ls.length : Int) < ls.length := Int.emod_lt_of_pos _ (by omega)
    obtain ⟨w, aw, mw⟩ := atI_in q1 q2
    obtain ⟨x, ax, ox⟩ := at2 (a := D.int (z / (ls.length : Int) % 5 - 2)) (b := D.int (z / 256 % 41 - 20)) (i := z / 16 % 9 / 8) (by omega) (by omega)
    obtain ⟨v, ev, v1, v2⟩ : ∃ v : Int, x = .int v ∧ -20 ≤ v ∧ v ≤ 20 := ox.elim (fun e => ⟨_, e, by omega, by omega⟩) fun e => ⟨_, e, by omega, by omega⟩
    subst ev
    have dl := dkI_len acc
    have hp := fun s i => dput_dkI (ks := acc) s i hn2
    simp (disch := first | omega | (apply cmx <;> omega) | (apply dvok <;> omega) | decide | fail) only [runD, s_cons, s_nil, s_frz, s_fgt, seq_next, seq_ret, seq_err, s_ifs, if_t, if_f, s_fors, s_whl, s_asg, s_nm_fz, s_nm_fr, s_tp, s_ret, s_rse, s_put, s_app, s_ext, s_par, e_and, e_or, and_t, and_f, or_t, or_f, test_bl, e_lc, ev.eq_1, ev.eq_2, ev.eq_3, ev.eq_4, ev.eq_5, ev.eq_6, ev.eq_7, ev.eq_8, ev.eq_9, ev.eq_12, ev.eq_13, ev.eq_14, ev.eq_15, ev.eq_16, ev.eq_17, ev.eq_18, ev.eq_19, ev.eq_20, ev.eq_21, ev.eq_22, ev.eq_23, evs, evo, evIt, MP.R.bind_ok, MP.R.bind_err, notBo_fz, notBo_fr, retK_fz, retK_fr, retK_bo, noErr_ok, binD.eq_1, binD.eq_2, binD.eq_3, binD.eq_4, binD.eq_5, binD.eq_6, binD.eq_7, binD.eq_8, binD.eq_9, binD.eq_10, binD.eq_11, cmpD.eq_1, cmpD.eq_2, cmpD.eq_3, cmpD.eq_4, cmpD.eq_5, cmpD.eq_6, cmpD.eq_7, cmpD.eq_8, cmpD.eq_9, cmpD.eq_10, cmpD.eq_11, cmpD.eq_12, cmpD.eq_13, ixD.eq_1, ixD.eq_2, ixD.eq_3, ixD.eq_4, ixD.eq_5, biD.eq_1, biD.eq_2, biD.eq_3, biD.eq_4, biD.eq_5, biD.eq_6, biD.eq_7, biD.eq_8, biD.eq_9, biD.eq_10, biD.eq_11, biD.eq_12, biD.eq_13, biD.eq_14, biD.eq_15, biD.eq_16, biD.eq_17, biD.eq_18, biD.eq_19, biD.eq_20, biD.eq_21, biD.eq_22, biD.eq_23, slD.eq_1, slD.eq_2, slD.eq_3, negD.eq_1, isi_int_int, isi_int_bool, isi_str_str, isi_tup_tup, notBos, asInt, asStr, asDic, rOpt, optOk, callD, isBo, bindTg, bindSlots, wipeD, ownL, ownK, ownAt, appD, extD.eq_1, putD.eq_1, putD.eq_2, setOwn, freeze, itemsD.eq_1, itemsD.eq_2, itemsD.eq_3, rng1D.eq_1, rng2D.eq_1, small62, Int.toNat_natCast, turnF, turnL, cast0, cast1, cast2, cast3, cast4, decide_true, decide_false,  freeze, app_len, rep_len,  inD.eq_1, inD.eq_2, inD.eq_3, tyD, MP.isNon, optCons, grd_T, slots_cons, slots_nil, immut, immuts, Option.map_some, Option.map_none, Option.getD_some, Option.getD_none, Option.bind_some, List.getElem?_cons_zero, List.getElem?_cons_succ, List.set_cons_zero, List.set_cons_succ, List.map_cons, List.map_nil, List.any_cons, List.any_nil, List.length_cons, List.length_nil, Nat.reduceAdd, Nat.reduceSub, List.replicate_succ, List.replicate_zero, List.cons_append, List.nil_append, Bool.or_false, Bool.false_and, Bool.and_false, Bool.false_eq_true, if_false, if_true, reduceIte, Bool.not_true, Bool.not_false, ne_eq, not_false_eq_true, and_true, true_and, and_self, Int.reduceEq, Int.reduceNe, not_true_eq_false, Int.reduceToNat, Int.reducePow, Int.reduceMul, Int.reduceAdd, Int.reduceSub, Int.reduceNeg, Nat.reduceLT, okD_int, okD_non, okD_bl, eqD_int, em, ax, atI_map, aw, grd_pos, fmodP, fdivP, List.length_map, dl, hp]
    refine ⟨_, rfl, iput acc w v, rfl, iput_nodup _ _ hn2, ?_, ?_, ?_⟩
    · have := iput_len acc w v
      omega
    · intro s hs
      rw [iput_keys] at hs
      split at hs
      · exact hk2 s hs
      · rcases List.mem_append.mp hs with hs | hs
        · exact hk2 s hs
        · rw [List.mem_singleton] at hs
          rw [hs]
          exact mw
    · intro p hp
      rcases iput_mem hp with rfl | hp
      · exact ⟨v1, v2⟩
      · exact hb p hp
  case rest =>
    rintro σ' ⟨acc, rfl, hn2, hl, hk2, hb⟩ rfl
    have hL : ∀ s ∈ acc.map (·.1), Ltr s := fun s hs => hls s (hk2 s hs)
    refine ⟨madeM acc, ?_, ⟨madeM_meas hn2 hL, by have := madeM_len acc; omega, fun p hp => hb p (madeM_mem hp)⟩, fun p hp => hk2 _ (List.mem_map.mpr ⟨p, madeM_mem hp, rfl⟩)⟩
    have le : acc.length ≤ 1000000 := by omega
    simp (disch := first | omega | (apply cmx <;> omega) | (apply dvok <;> omega) | decide | fail) only [runD, s_cons, s_nil, s_frz, s_fgt, seq_next, seq_ret, seq_err, s_ifs, if_t, if_f, s_fors, s_whl, s_asg, s_nm_fz, s_nm_fr, s_tp, s_ret, s_rse, s_put, s_app, s_ext, s_par, e_and, e_or, and_t, and_f, or_t, or_f, test_bl, e_lc, ev.eq_1, ev.eq_2, ev.eq_3, ev.eq_4, ev.eq_5, ev.eq_6, ev.eq_7, ev.eq_8, ev.eq_9, ev.eq_12, ev.eq_13, ev.eq_14, ev.eq_15, ev.eq_16, ev.eq_17, ev.eq_18, ev.eq_19, ev.eq_20, ev.eq_21, ev.eq_22, ev.eq_23, evs, evo, evIt, MP.R.bind_ok, MP.R.bind_err, notBo_fz, notBo_fr, retK_fz, retK_fr, retK_bo, noErr_ok, binD.eq_1, binD.eq_2, binD.eq_3, binD.eq_4, binD.eq_5, binD.eq_6, binD.eq_7, binD.eq_8, binD.eq_9, binD.eq_10, binD.eq_11, cmpD.eq_1, cmpD.eq_2, cmpD.eq_3, cmpD.eq_4, cmpD.eq_5, cmpD.eq_6, cmpD.eq_7, cmpD.eq_8, cmpD.eq_9, cmpD.eq_10, cmpD.eq_11, cmpD.eq_12, cmpD.eq_13, ixD.eq_1, ixD.eq_2, ixD.eq_3, ixD.eq_4, ixD.eq_5, biD.eq_1, biD.eq_2, biD.eq_3, biD.eq_4, biD.eq_5, biD.eq_6, biD.eq_7, biD.eq_8, biD.eq_9, biD.eq_10, biD.eq_11, biD.eq_12, biD.eq_13, biD.eq_14, biD.eq_15, biD.eq_16, biD.eq_17, biD.eq_18, biD.eq_19, biD.eq_20, biD.eq_21, biD.eq_22, biD.eq_23, slD.eq_1, slD.eq_2, slD.eq_3, negD.eq_1, isi_int_int, isi_int_bool, isi_str_str, isi_tup_tup, notBos, asInt, asStr, asDic, rOpt, optOk, callD, isBo, bindTg, bindSlots, wipeD, ownL, ownK, ownAt, appD, extD.eq_1, putD.eq_1, putD.eq_2, setOwn, freeze, itemsD.eq_1, itemsD.eq_2, itemsD.eq_3, rng1D.eq_1, rng2D.eq_1, small62, Int.toNat_natCast, turnF, turnL, cast0, cast1, cast2, cast3, cast4, decide_true, decide_false,  freeze, app_len, rep_len,  inD.eq_1, inD.eq_2, inD.eq_3, tyD, MP.isNon, optCons, grd_T, slots_cons, slots_nil, immut, immuts, Option.map_some, Option.map_none, Option.getD_some, Option.getD_none, Option.bind_some, List.getElem?_cons_zero, List.getElem?_cons_succ, List.set_cons_zero, List.set_cons_succ, List.map_cons, List.map_nil, List.any_cons, List.any_nil, List.length_cons, List.length_nil, Nat.reduceAdd, Nat.reduceSub, List.replicate_succ, List.replicate_zero, List.cons_append, List.nil_append, Bool.or_false, Bool.false_and, Bool.and_false, Bool.false_eq_true, if_false, if_true, reduceIte, Bool.not_true, Bool.not_false, ne_eq, not_false_eq_true, and_true, true_and, and_self, Int.reduceEq, Int.reduceNe, not_true_eq_false, Int.reduceToNat, Int.reducePow, Int.reduceMul, Int.reduceAdd, Int.reduceSub, Int.reduceNeg, Nat.reduceLT, okD_int, okD_non, okD_bl, eqD_int, lmade_eq le]
theorem lnumber_eq {z : Int} (h1 : 0 ≤ z) (h2 : z < 2 ^ 64) : ∃ p : Int × Int, m__law_number [.int z] = .ok (qD p, .fz) ∧ NumOk p := by
  unfold m__law_number ir__law_number
  have cp : CPow 6 3 := ⟨by decide, by decide, by decide⟩
  have cp2 : CPow 10 9 := ⟨by decide, by decide, by decide⟩
  by_cases q : z % 6 < 4
  · have q' : (z % 6 < 4) = True := eq_true q
    have n0 : 1 + z / 246 % 5 ≠ 0 := by omega
    obtain ⟨l, l1, l2⟩ := low (a := z / 6 % 41 - 20) n0
    have e := lowest_eq (a := z / 6 % 41 - 20) n0 (by omega)
    have lp := l.pos
    refine ⟨frZ (z / 6 % 41 - 20) (1 + z / 246 % 5), ?_, ⟨l.pos, by omega, by omega, by omega, l.co⟩⟩
    simp (disch := first | omega | (apply cmx <;> omega) | (apply dvok <;> omega) | decide | fail) only [runD, s_cons, s_nil, s_frz, s_fgt, seq_next, seq_ret, seq_err, s_ifs, if_t, if_f, s_fors, s_whl, s_asg, s_nm_fz, s_nm_fr, s_tp, s_ret, s_rse, s_put, s_app, s_ext, s_par, e_and, e_or, and_t, and_f, or_t, or_f, test_bl, e_lc, ev.eq_1, ev.eq_2, ev.eq_3, ev.eq_4, ev.eq_5, ev.eq_6, ev.eq_7, ev.eq_8, ev.eq_9, ev.eq_12, ev.eq_13, ev.eq_14, ev.eq_15, ev.eq_16, ev.eq_17, ev.eq_18, ev.eq_19, ev.eq_20, ev.eq_21, ev.eq_22, ev.eq_23, evs, evo, evIt, MP.R.bind_ok, MP.R.bind_err, notBo_fz, notBo_fr, retK_fz, retK_fr, retK_bo, noErr_ok, binD.eq_1, binD.eq_2, binD.eq_3, binD.eq_4, binD.eq_5, binD.eq_6, binD.eq_7, binD.eq_8, binD.eq_9, binD.eq_10, binD.eq_11, cmpD.eq_1, cmpD.eq_2, cmpD.eq_3, cmpD.eq_4, cmpD.eq_5, cmpD.eq_6, cmpD.eq_7, cmpD.eq_8, cmpD.eq_9, cmpD.eq_10, cmpD.eq_11, cmpD.eq_12, cmpD.eq_13, ixD.eq_1, ixD.eq_2, ixD.eq_3, ixD.eq_4, ixD.eq_5, biD.eq_1, biD.eq_2, biD.eq_3, biD.eq_4, biD.eq_5, biD.eq_6, biD.eq_7, biD.eq_8, biD.eq_9, biD.eq_10, biD.eq_11, biD.eq_12, biD.eq_13, biD.eq_14, biD.eq_15, biD.eq_16, biD.eq_17, biD.eq_18, biD.eq_19, biD.eq_20, biD.eq_21, biD.eq_22, biD.eq_23, slD.eq_1, slD.eq_2, slD.eq_3, negD.eq_1, isi_int_int, isi_int_bool, isi_str_str, isi_tup_tup, notBos, asInt, asStr, asDic, rOpt, optOk, callD, isBo, bindTg, bindSlots, wipeD, ownL, ownK, ownAt, appD, extD.eq_1, putD.eq_1, putD.eq_2, setOwn, freeze, itemsD.eq_1, itemsD.eq_2, itemsD.eq_3, rng1D.eq_1, rng2D.eq_1, small62, Int.toNat_natCast, turnF, turnL, cast0, cast1, cast2, cast3, cast4, decide_true, decide_false,  freeze, app_len, rep_len,  inD.eq_1, inD.eq_2, inD.eq_3, tyD, MP.isNon, optCons, grd_T, slots_cons, slots_nil, immut, immuts, Option.map_some, Option.map_none, Option.getD_some, Option.getD_none, Option.bind_some, List.getElem?_cons_zero, List.getElem?_cons_succ, List.set_cons_zero, List.set_cons_succ, List.map_cons, List.map_nil, List.any_cons, List.any_nil, List.length_cons, List.length_nil, Nat.reduceAdd, Nat.reduceSub, List.replicate_succ, List.replicate_zero, List.cons_append, List.nil_append, Bool.or_false, Bool.false_and, Bool.and_false, Bool.false_eq_true, if_false, if_true, reduceIte, Bool.not_true, Bool.not_false, ne_eq, not_false_eq_true, and_true, true_and, and_self, Int.reduceEq, Int.reduceNe, not_true_eq_false, Int.reduceToNat, Int.reducePow, Int.reduceMul, Int.reduceAdd, Int.reduceSub, Int.reduceNeg, Nat.reduceLT, okD_int, okD_non, okD_bl, eqD_int, q', e, grd_pos, fmodP, fdivP]
  · have q' : (z % 6 < 4) = False := eq_false q
    by_cases r : z % 6 = 4
    · have r' : (z % 6 = 4) = True := eq_true r
      refine ⟨(0, 1), ?_, ⟨by decide, by decide, by decide, by decide, by decide⟩⟩
      simp (disch := first | omega | (apply cmx <;> omega) | (apply dvok <;> omega) | decide | fail) only [runD, s_cons, s_nil, s_frz, s_fgt, seq_next, seq_ret, seq_err, s_ifs, if_t, if_f, s_fors, s_whl, s_asg, s_nm_fz, s_nm_fr, s_tp, s_ret, s_rse, s_put, s_app, s_ext, s_par, e_and, e_or, and_t, and_f, or_t, or_f, test_bl, e_lc, ev.eq_1, ev.eq_2, ev.eq_3, ev.eq_4, ev.eq_5, ev.eq_6, ev.eq_7, ev.eq_8, ev.eq_9, ev.eq_12, ev.eq_13, ev.eq_14, ev.eq_15, ev.eq_16, ev.eq_17, ev.eq_18, ev.eq_19, ev.eq_20, ev.eq_21, ev.eq_22, ev.eq_23, evs, evo, evIt, MP.R.bind_ok, MP.R.bind_err, notBo_fz, notBo_fr, retK_fz, retK_fr, retK_bo, noErr_ok, binD.eq_1, binD.eq_2, binD.eq_3, binD.eq_4, binD.eq_5, binD.eq_6, binD.eq_7, binD.eq_8, binD.eq_9, binD.eq_10, binD.eq_11, cmpD.eq_1, cmpD.eq_2, cmpD.eq_3, cmpD.eq_4, cmpD.eq_5, cmpD.eq_6, cmpD.eq_7, cmpD.eq_8, cmpD.eq_9, cmpD.eq_10, cmpD.eq_11, cmpD.eq_12, cmpD.eq_13, ixD.eq_1, ixD.eq_2, ixD.eq_3, ixD.eq_4, ixD.eq_5, biD.eq_1, biD.eq_2, biD.eq_3, biD.eq_4, biD.eq_5, biD.eq_6, biD.eq_7, biD.eq_8, biD.eq_9, biD.eq_10, biD.eq_11, biD.eq_12, biD.eq_13, biD.eq_14, biD.eq_15, biD.eq_16, biD.eq_17, biD.eq_18, biD.eq_19, biD.eq_20, biD.eq_21, biD.eq_22, biD.eq_23, slD.eq_1, slD.eq_2, slD.eq_3, negD.eq_1, isi_int_int, isi_int_bool, isi_str_str, isi_tup_tup, notBos, asInt, asStr, asDic, rOpt, optOk, callD, isBo, bindTg, bindSlots, wipeD, ownL, ownK, ownAt, appD, extD.eq_1, putD.eq_1, putD.eq_2, setOwn, freeze, itemsD.eq_1, itemsD.eq_2, itemsD.eq_3, rng1D.eq_1, rng2D.eq_1, small62, Int.toNat_natCast, turnF, turnL, cast0, cast1, cast2, cast3, cast4, decide_true, decide_false,  freeze, app_len, rep_len,  inD.eq_1, inD.eq_2, inD.eq_3, tyD, MP.isNon, optCons, grd_T, slots_cons, slots_nil, immut, immuts, Option.map_some, Option.map_none, Option.getD_some, Option.getD_none, Option.bind_some, List.getElem?_cons_zero, List.getElem?_cons_succ, List.set_cons_zero, List.set_cons_succ, List.map_cons, List.map_nil, List.any_cons, List.any_nil, List.length_cons, List.length_nil, Nat.reduceAdd, Nat.reduceSub, List.replicate_succ, List.replicate_zero, List.cons_append, List.nil_append, Bool.or_false, Bool.false_and, Bool.and_false, Bool.false_eq_true, if_false, if_true, reduceIte, Bool.not_true, Bool.not_false, ne_eq, not_false_eq_true, and_true, true_and, and_self, Int.reduceEq, Int.reduceNe, not_true_eq_false, Int.reduceToNat, Int.reducePow, Int.reduceMul, Int.reduceAdd, Int.reduceSub, Int.reduceNeg, Nat.reduceLT, okD_int, okD_non, okD_bl, eqD_int, q', r', grd_pos, fmodP, fdivP]
      rfl
    · have r' : (z % 6 = 4) = False := eq_false r
      have n0 : 1 + z / 6 % 1000000000 ≠ 0 := by omega
      obtain ⟨l, l1, l2⟩ := low (a := z / 216 * 7 % 2000000001 - 1000000000) n0
      have e := lowest_eq (a := z / 216 * 7 % 2000000001 - 1000000000) n0 (by omega)
      have lp := l.pos
      refine ⟨frZ (z / 216 * 7 % 2000000001 - 1000000000) (1 + z / 6 % 1000000000), ?_, ⟨l.pos, by omega, by omega, by omega, l.co⟩⟩
      simp (disch := first | omega | (apply cmx <;> omega) | (apply dvok <;> omega) | decide | fail) only [runD, s_cons, s_nil, s_frz, s_fgt, seq_next, seq_ret, seq_err, s_ifs, if_t, if_f, s_fors, s_whl, s_asg, s_nm_fz, s_nm_fr, s_tp, s_ret, s_rse, s_put, s_app, s_ext, s_par, e_and, e_or, and_t, and_f, or_t, or_f, test_bl, e_lc, ev.eq_1, ev.eq_2, ev.eq_3, ev.eq_4, ev.eq_5, ev.eq_6, ev.eq_7, ev.eq_8, ev.eq_9, ev.eq_12, ev.eq_13, ev.eq_14, ev.eq_15, ev.eq_16, ev.eq_17, ev.eq_18, ev.eq_19, ev.eq_20, ev.eq_21, ev.eq_22, ev.eq_23, evs, evo, evIt, MP.R.bind_ok, MP.R.bind_err, notBo_fz, notBo_fr, retK_fz, retK_fr, retK_bo, noErr_ok, binD.eq_1, binD.eq_2, binD.eq_3, binD.eq_4, binD.eq_5, binD.eq_6, binD.eq_7, binD.eq_8, binD.eq_9, binD.eq_10, binD.eq_11, cmpD.eq_1, cmpD.eq_2, cmpD.eq_3, cmpD.eq_4, cmpD.eq_5, cmpD.eq_6, cmpD.eq_7, cmpD.eq_8, cmpD.eq_9, cmpD.eq_10, cmpD.eq_11, cmpD.eq_12, cmpD.eq_13, ixD.eq_1, ixD.eq_2, ixD.eq_3, ixD.eq_4, ixD.eq_5, biD.eq_1, biD.eq_2, biD.eq_3, biD.eq_4, biD.eq_5, biD.eq_6, biD.eq_7, biD.eq_8, biD.eq_9, biD.eq_10, biD.eq_11, biD.eq_12, biD.eq_13, biD.eq_14, biD.eq_15, biD.eq_16, biD.eq_17, biD.eq_18, biD.eq_19, biD.eq_20, biD.eq_21, biD.eq_22, biD.eq_23, slD.eq_1, slD.eq_2, slD.eq_3, negD.eq_1, isi_int_int, isi_int_bool, isi_str_str, isi_tup_tup, notBos, asInt, asStr, asDic, rOpt, optOk, callD, isBo, bindTg, bindSlots, wipeD, ownL, ownK, ownAt, appD, extD.eq_1, putD.eq_1, putD.eq_2, setOwn, freeze, itemsD.eq_1, itemsD.eq_2, itemsD.eq_3, rng1D.eq_1, rng2D.eq_1, small62, Int.toNat_natCast, turnF, turnL, cast0, cast1, cast2, cast3, cast4, decide_true, decide_false,  freeze, app_len, rep_len,  inD.eq_1, inD.eq_2, inD.eq_3, tyD, MP.isNon, optCons, grd_T, slots_cons, slots_nil, immut, immuts, Option.map_some, Option.map_none, Option.getD_some, Option.getD_none, Option.bind_some, List.getElem?_cons_zero, List.getElem?_cons_succ, List.set_cons_zero, List.set_cons_succ, List.map_cons, List.map_nil, List.any_cons, List.any_nil, List.length_cons, List.length_nil, Nat.reduceAdd, Nat.reduceSub, List.replicate_succ, List.replicate_zero, List.cons_append, List.nil_append, Bool.or_false, Bool.false_and, Bool.and_false, Bool.false_eq_true, if_false, if_true, reduceIte, Bool.not_true, Bool.not_false, ne_eq, not_false_eq_true, and_true, true_and, and_self, Int.reduceEq, Int.reduceNe, not_true_eq_false, Int.reduceToNat, Int.reducePow, Int.reduceMul, Int.reduceAdd, Int.reduceSub, Int.reduceNeg, Nat.reduceLT, okD_int, okD_non, okD_bl, eqD_int, q', r', e, cp, cp2, grd_pos, fmodP, fdivP]
/-- the words that a reckoning is made of -/
structure Wds (ws : List Str) : Prop where
  p : 0 < ws.length
  l : ws.length ≤ 100
  t : ∀ w ∈ ws, Ltr w
theorem lleaf_eq {c : Int} {ws bs : List Str} (h1 : 0 ≤ c) (h2 : c < 2 ^ 64) (hw : Wds ws) (hb : Wds bs) :
    ∃ r : Rk, m__law_leaf [.int c, .lst (ws.map .str), .lst (bs.map .str)] = .ok (r.d, .fz) ∧ r.Ok 3 20 (· ∈ ws) ∧ r.ht = 0 ∧ r.pws = 0 ∧ r.size = 1 := by
  unfold m__law_leaf ir__law_leaf
  by_cases q : c % 6 < 3
  · have q' : (c % 6 < 3) = True := eq_true q
    have hl := hw.p
    have q1 : 0 ≤ c / 6 % (ws.length : Int) := Int.emod_nonneg _ (by omega)
    have q2 : c / 6 % (ws.length : Int) < ws.length := Int.emod_lt_of_pos _ (by omega)
    obtain ⟨w, aw, mw⟩ := atI_in q1 q2
    refine ⟨.input w, ?_, mw, rfl, rfl, rfl⟩
    simp (disch := first | omega | (apply cmx <;> omega) | (apply dvok <;> omega) | decide | fail) only [runD, s_cons, s_nil, s_frz, s_fgt, seq_next, seq_ret, seq_err, s_ifs, if_t, if_f, s_fors, s_whl, s_asg, s_nm_fz, s_nm_fr, s_tp, s_ret, s_rse, s_put, s_app, s_ext, s_par, e_and, e_or, and_t, and_f, or_t, or_f, test_bl, e_lc, ev.eq_1, ev.eq_2, ev.eq_3, ev.eq_4, ev.eq_5, ev.eq_6, ev.eq_7, ev.eq_8, ev.eq_9, ev.eq_12, ev.eq_13, ev.eq_14, ev.eq_15, ev.eq_16, ev.eq_17, ev.eq_18, ev.eq_19, ev.eq_20, ev.eq_21, ev.eq_22, ev.eq_23, evs, evo, evIt, MP.R.bind_ok, MP.R.bind_err, notBo_fz, notBo_fr, retK_fz, retK_fr, retK_bo, noErr_ok, binD.eq_1, binD.eq_2, binD.eq_3, binD.eq_4, binD.eq_5, binD.eq_6, binD.eq_7, binD.eq_8, binD.eq_9, binD.eq_10, binD.eq_11, cmpD.eq_1, cmpD.eq_2, cmpD.eq_3, cmpD.eq_4, cmpD.eq_5, cmpD.eq_6, cmpD.eq_7, cmpD.eq_8, cmpD.eq_9, cmpD.eq_10, cmpD.eq_11, cmpD.eq_12, cmpD.eq_13, ixD.eq_1, ixD.eq_2, ixD.eq_3, ixD.eq_4, ixD.eq_5, biD.eq_1, biD.eq_2, biD.eq_3, biD.eq_4, biD.eq_5, biD.eq_6, biD.eq_7, biD.eq_8, biD.eq_9, biD.eq_10, biD.eq_11, biD.eq_12, biD.eq_13, biD.eq_14, biD.eq_15, biD.eq_16, biD.eq_17, biD.eq_18, biD.eq_19, biD.eq_20, biD.eq_21, biD.eq_22, biD.eq_23, slD.eq_1, slD.eq_2, slD.eq_3, negD.eq_1, isi_int_int, isi_int_bool, isi_str_str, isi_tup_tup, notBos, asInt, asStr, asDic, rOpt, optOk, callD, isBo, bindTg, bindSlots, wipeD, ownL, ownK, ownAt, appD, extD.eq_1, putD.eq_1, putD.eq_2, setOwn, freeze, itemsD.eq_1, itemsD.eq_2, itemsD.eq_3, rng1D.eq_1, rng2D.eq_1, small62, Int.toNat_natCast, turnF, turnL, cast0, cast1, cast2, cast3, cast4, decide_true, decide_false,  freeze, app_len, rep_len,  inD.eq_1, inD.eq_2, inD.eq_3, tyD, MP.isNon, optCons, grd_T, slots_cons, slots_nil, immut, immuts, Option.map_some, Option.map_none, Option.getD_some, Option.getD_none, Option.bind_some, List.getElem?_cons_zero, List.getElem?_cons_succ, List.set_cons_zero, List.set_cons_succ, List.map_cons, List.map_nil, List.any_cons, List.any_nil, List.length_cons, List.length_nil, Nat.reduceAdd, Nat.reduceSub, List.replicate_succ, List.replicate_zero, List.cons_append, List.nil_append, Bool.or_false, Bool.false_and, Bool.and_false, Bool.false_eq_true, if_false, if_true, reduceIte, Bool.not_true, Bool.not_false, ne_eq, not_false_eq_true, and_true, true_and, and_self, Int.reduceEq, Int.reduceNe, not_true_eq_false, Int.reduceToNat, Int.reducePow, Int.reduceMul, Int.reduceAdd, Int.reduceSub, Int.reduceNeg, Nat.reduceLT, okD_int, okD_non, okD_bl, eqD_int, q', atI_map, aw, List.length_map, grd_pos, fmodP, fdivP]
    rfl
  · have q' : (c % 6 < 3) = False := eq_false q
    by_cases r : c % 6 = 3
    · have r' : (c % 6 = 3) = True := eq_true r
      refine ⟨.nought, ?_, trivial, rfl, rfl, rfl⟩
      simp (disch := first | omega | (apply cmx <;> omega) | (apply dvok <;> omega) | decide | fail) only [runD, s_cons, s_nil, s_frz, s_fgt, seq_next, seq_ret, seq_err, s_ifs, if_t, if_f, s_fors, s_whl, s_asg, s_nm_fz, s_nm_fr, s_tp, s_ret, s_rse, s_put, s_app, s_ext, s_par, e_and, e_or, and_t, and_f, or_t, or_f, test_bl, e_lc, ev.eq_1, ev.eq_2, ev.eq_3, ev.eq_4, ev.eq_5, ev.eq_6, ev.eq_7, ev.eq_8, ev.eq_9, ev.eq_12, ev.eq_13, ev.eq_14, ev.eq_15, ev.eq_16, ev.eq_17, ev.eq_18, ev.eq_19, ev.eq_20, ev.eq_21, ev.eq_22, ev.eq_23, evs, evo, evIt, MP.R.bind_ok, MP.R.bind_err, notBo_fz, notBo_fr, retK_fz, retK_fr, retK_bo, noErr_ok, binD.eq_1, binD.eq_2, binD.eq_3, binD.eq_4, binD.eq_5, binD.eq_6, binD.eq_7, binD.eq_8, binD.eq_9, binD.eq_10, binD.eq_11, cmpD.eq_1, cmpD.eq_2, cmpD.eq_3, cmpD.eq_4, cmpD.eq_5, cmpD.eq_6, cmpD.eq_7, cmpD.eq_8, cmpD.eq_9, cmpD.eq_10, cmpD.eq_11, cmpD.eq_12, cmpD.eq_13, ixD.eq_1, ixD.eq_2, ixD.eq_3, ixD.eq_4, ixD.eq_5, biD.eq_1, biD.eq_2, biD.eq_3, biD.eq_4, biD.eq_5, biD.eq_6, biD.eq_7, biD.eq_8, biD.eq_9, biD.eq_10, biD.eq_11, biD.eq_12, biD.eq_13, biD.eq_14, biD.eq_15, biD.eq_16, biD.eq_17, biD.eq_18, biD.eq_19, biD.eq_20, biD.eq_21, biD.eq_22, biD.eq_23, slD.eq_1, slD.eq_2, slD.eq_3, negD.eq_1, isi_int_int, isi_int_bool, isi_str_str, isi_tup_tup, notBos, asInt, asStr, asDic, rOpt, optOk, callD, isBo, bindTg, bindSlots, wipeD, ownL, ownK, ownAt, appD, extD.eq_1, putD.eq_1, putD.eq_2, setOwn, freeze, itemsD.eq_1, itemsD.eq_2, itemsD.eq_3, rng1D.eq_1, rng2D.eq_1, small62, Int.toNat_natCast, turnF, turnL, cast0, cast1, cast2, cast3, cast4, decide_true, decide_false,  freeze, app_len, rep_len,  inD.eq_1, inD.eq_2, inD.eq_3, tyD, MP.isNon, optCons, grd_T, slots_cons, slots_nil, immut, immuts, Option.map_some, Option.map_none, Option.getD_some, Option.getD_none, Option.bind_some, List.getElem?_cons_zero, List.getElem?_cons_succ, List.set_cons_zero, List.set_cons_succ, List.map_cons, List.map_nil, List.any_cons, List.any_nil, List.length_cons, List.length_nil, Nat.reduceAdd, Nat.reduceSub, List.replicate_succ, List.replicate_zero, List.cons_append, List.nil_append, Bool.or_false, Bool.false_and, Bool.and_false, Bool.false_eq_true, if_false, if_true, reduceIte, Bool.not_true, Bool.not_false, ne_eq, not_false_eq_true, and_true, true_and, and_self, Int.reduceEq, Int.reduceNe, not_true_eq_false, Int.reduceToNat, Int.reducePow, Int.reduceMul, Int.reduceAdd, Int.reduceSub, Int.reduceNeg, Nat.reduceLT, okD_int, okD_non, okD_bl, eqD_int, q', r', grd_pos, fmodP, fdivP]
      rfl
    · have r' : (c % 6 = 3) = False := eq_false r
      have em := mix_eq (c := c / 6) (k := 9) (by omega) (by omega) (by omega) (by omega)
      obtain ⟨z1, z2⟩ := mixZ_ge (c / 6) 9
      obtain ⟨p, ep, np⟩ := lnumber_eq (z := mixZ (c / 6) 9) z1 (by omega)
      obtain ⟨m, es, bm, _⟩ := lsmall_eq (c := c / 6) (by omega) (by omega) hb.p hb.l hb.t
      refine ⟨.is p m, ?_, ⟨np, bm⟩, rfl, rfl, rfl⟩
      simp (disch := first | omega | (apply cmx <;> omega) | (apply dvok <;> omega) | decide | fail) only [runD, s_cons, s_nil, s_frz, s_fgt, seq_next, seq_ret, seq_err, s_ifs, if_t, if_f, s_fors, s_whl, s_asg, s_nm_fz, s_nm_fr, s_tp, s_ret, s_rse, s_put, s_app, s_ext, s_par, e_and, e_or, and_t, and_f, or_t, or_f, test_bl, e_lc, ev.eq_1, ev.eq_2, ev.eq_3, ev.eq_4, ev.eq_5, ev.eq_6, ev.eq_7, ev.eq_8, ev.eq_9, ev.eq_12, ev.eq_13, ev.eq_14, ev.eq_15, ev.eq_16, ev.eq_17, ev.eq_18, ev.eq_19, ev.eq_20, ev.eq_21, ev.eq_22, ev.eq_23, evs, evo, evIt, MP.R.bind_ok, MP.R.bind_err, notBo_fz, notBo_fr, retK_fz, retK_fr, retK_bo, noErr_ok, binD.eq_1, binD.eq_2, binD.eq_3, binD.eq_4, binD.eq_5, binD.eq_6, binD.eq_7, binD.eq_8, binD.eq_9, binD.eq_10, binD.eq_11, cmpD.eq_1, cmpD.eq_2, cmpD.eq_3, cmpD.eq_4, cmpD.eq_5, cmpD.eq_6, cmpD.eq_7, cmpD.eq_8, cmpD.eq_9, cmpD.eq_10, cmpD.eq_11, cmpD.eq_12, cmpD.eq_13, ixD.eq_1, ixD.eq_2, ixD.eq_3, ixD.eq_4, ixD.eq_5, biD.eq_1, biD.eq_2, biD.eq_3, biD.eq_4, biD.eq_5, biD.eq_6, biD.eq_7, biD.eq_8, biD.eq_9, biD.eq_10, biD.eq_11, biD.eq_12, biD.eq_13, biD.eq_14, biD.eq_15, biD.eq_16, biD.eq_17, biD.eq_18, biD.eq_19, biD.eq_20, biD.eq_21, biD.eq_22, biD.eq_23, slD.eq_1, slD.eq_2, slD.eq_3, negD.eq_1, isi_int_int, isi_int_bool, isi_str_str, isi_tup_tup, notBos, asInt, asStr, asDic, rOpt, optOk, callD, isBo, bindTg, bindSlots, wipeD, ownL, ownK, ownAt, appD, extD.eq_1, putD.eq_1, putD.eq_2, setOwn, freeze, itemsD.eq_1, itemsD.eq_2, itemsD.eq_3, rng1D.eq_1, rng2D.eq_1, small62, Int.toNat_natCast, turnF, turnL, cast0, cast1, cast2, cast3, cast4, decide_true, decide_false,  freeze, app_len, rep_len,  inD.eq_1, inD.eq_2, inD.eq_3, tyD, MP.isNon, optCons, grd_T, slots_cons, slots_nil, immut, immuts, Option.map_some, Option.map_none, Option.getD_some, Option.getD_none, Option.bind_some, List.getElem?_cons_zero, List.getElem?_cons_succ, List.set_cons_zero, List.set_cons_succ, List.map_cons, List.map_nil, List.any_cons, List.any_nil, List.length_cons, List.length_nil, Nat.reduceAdd, Nat.reduceSub, List.replicate_succ, List.replicate_zero, List.cons_append, List.nil_append, Bool.or_false, Bool.false_and, Bool.and_false, Bool.false_eq_true, if_false, if_true, reduceIte, Bool.not_true, Bool.not_false, ne_eq, not_false_eq_true, and_true, true_and, and_self, Int.reduceEq, Int.reduceNe, not_true_eq_false, Int.reduceToNat, Int.reducePow, Int.reduceMul, Int.reduceAdd, Int.reduceSub, Int.reduceNeg, Nat.reduceLT, okD_int, okD_non, okD_bl, eqD_int, q', r', em, ep, es, grd_pos, fmodP, fdivP]
      rfl
theorem at4 {α : Type} {a b c d : α} {i : Int} (h1 : 0 ≤ i) (h2 : i < 4) : ∃ x, atI [a, b, c, d] i = some x ∧ (x = a ∨ x = b ∨ x = c ∨ x = d) := by
  have : i = 0 ∨ i = 1 ∨ i = 2 ∨ i = 3 := by omega
  rcases this with rfl | rfl | rfl | rfl
  · exact ⟨a, rfl, .inl rfl⟩
  · exact ⟨b, rfl, .inr (.inl rfl)⟩
  · exact ⟨c, rfl, .inr (.inr (.inl rfl))⟩
  · exact ⟨d, rfl, .inr (.inr (.inr rfl))⟩
theorem at_ops {i : Int} (h1 : 0 ≤ i) (h2 : i < 4) : ∃ o : Bk, atI [D.str "plus", D.str "minus", D.str "times", D.str "over"] i = some (.str o.s) := by
  obtain ⟨x, e, q⟩ := at4 (a := D.str "plus") (b := D.str "minus") (c := D.str "times") (d := D.str "over") h1 h2
  rcases q with rfl | rfl | rfl | rfl
  · exact ⟨.plus, e⟩
  · exact ⟨.minus, e⟩
  · exact ⟨.times, e⟩
  · exact ⟨.over, e⟩
theorem ltree_eq {ws bs : List Str} (hw : Wds ws) (hb : Wds bs) : ∀ (k : Nat) (c dp pw : Int), dp < k → -2 < dp → 0 ≤ c → c < 2 ^ 64 →
    ∃ r : Rk, m__law_tree (k + 1) [.int c, .int dp, .tup [.lst (ws.map .str), .lst (bs.map .str)], .int pw] = .ok (r.d, .fz) ∧ r.Ok 3 20 (· ∈ ws) ∧ r.ht ≤ dp.toNat ∧ r.pws ≤ pw.toNat ∧ r.size ≤ 5 ^ dp.toNat
  | k, c, dp, pw, hd, hd2, h1, h2 => by
    show ∃ r : Rk, runD 8 (ir__law_tree (m__law_tree k)) _ = _ ∧ _
    unfold ir__law_tree
    by_cases q : dp < 1 ∨ c % 9 < 2
    · obtain ⟨r, er, ok, rh, rp, rs⟩ := lleaf_eq (c := c / 9) (by omega) (by omega) hw hb
      refine ⟨r, ?_, ok, by omega, by omega, by rw [rs]; exact Nat.le_trans Nat.one_le_two_pow (Nat.pow_le_pow_left (by decide) _)⟩
      by_cases q1 : dp < 1
      · have q1' : (dp < 1) = True := eq_true q1
        simp (disch := first | omega | (apply cmx <;> omega) | (apply dvok <;> omega) | decide | fail) only [runD, s_cons, s_nil, s_frz, s_fgt, seq_next, seq_ret, seq_err, s_ifs, if_t, if_f, s_fors, s_whl, s_asg, s_nm_fz, s_nm_fr, s_tp, s_ret, s_rse, s_put, s_app, s_ext, s_par, e_and, e_or, and_t, and_f, or_t, or_f, test_bl, e_lc, ev.eq_1, ev.eq_2, ev.eq_3, ev.eq_4, ev.eq_5, ev.eq_6, ev.eq_7, ev.eq_8, ev.eq_9, ev.eq_12, ev.eq_13, ev.eq_14, ev.eq_15, ev.eq_16, ev.eq_17, ev.eq_18, ev.eq_19, ev.eq_20, ev.eq_21, ev.eq_22, ev.eq_23, evs, evo, evIt, MP.R.bind_ok, MP.R.bind_err, notBo_fz, notBo_fr, retK_fz, retK_fr, retK_bo, noErr_ok, binD.eq_1, binD.eq_2, binD.eq_3, binD.eq_4, binD.eq_5, binD.eq_6, binD.eq_7, binD.eq_8, binD.eq_9, binD.eq_10, binD.eq_11, cmpD.eq_3, cmpD.eq_4, cmpD.eq_5, cmpD.eq_6, cmpD.eq_7, cmpD.eq_8, cmpD.eq_9, cmpD.eq_10, cmpD.eq_11, cmpD.eq_12, cmpD.eq_13, ixD.eq_1, ixD.eq_2, ixD.eq_3, ixD.eq_4, ixD.eq_5, biD.eq_1, biD.eq_2, biD.eq_3, biD.eq_4, biD.eq_5, biD.eq_6, biD.eq_7, biD.eq_8, biD.eq_9, biD.eq_10, biD.eq_11, biD.eq_12, biD.eq_13, biD.eq_14, biD.eq_15, biD.eq_16, biD.eq_17, biD.eq_18, biD.eq_19, biD.eq_20, biD.eq_21, biD.eq_22, biD.eq_23, slD.eq_1, slD.eq_2, slD.eq_3, negD.eq_1, isi_int_int, isi_int_bool, isi_str_str, isi_tup_tup, notBos, asInt, asStr, asDic, rOpt, optOk, callD, isBo, bindTg, bindSlots, wipeD, ownL, ownK, ownAt, appD, extD.eq_1, putD.eq_1, putD.eq_2, setOwn, freeze, itemsD.eq_1, itemsD.eq_2, itemsD.eq_3, rng1D.eq_1, rng2D.eq_1, small62, Int.toNat_natCast, turnF, turnL, cast0, cast1, cast2, cast3, cast4, decide_true, decide_false,  freeze, app_len, rep_len,  inD.eq_1, inD.eq_2, inD.eq_3, tyD, MP.isNon, optCons, grd_T, slots_cons, slots_nil, immut, immuts, Option.map_some, Option.map_none, Option.getD_some, Option.getD_none, Option.bind_some, List.getElem?_cons_zero, List.getElem?_cons_succ, List.set_cons_zero, List.set_cons_succ, List.map_cons, List.map_nil, List.any_cons, List.any_nil, List.length_cons, List.length_nil, Nat.reduceAdd, Nat.reduceSub, List.replicate_succ, List.replicate_zero, List.cons_append, List.nil_append, Bool.or_false, Bool.false_and, Bool.and_false, Bool.false_eq_true, if_false, if_true, reduceIte, Bool.not_true, Bool.not_false, ne_eq, not_false_eq_true, and_true, true_and, and_self, Int.reduceEq, Int.reduceNe, not_true_eq_false, Int.reduceToNat, Int.reducePow, Int.reduceMul, Int.reduceAdd, Int.reduceSub, Int.reduceNeg, Nat.reduceLT, okD_int, okD_non, okD_bl, eqD_int, cmp_eqI, cmp_neI, at_0, at_1, at_2, at_3, at_4, cut_1, k_is_is, k_is_nought, k_is_input, k_is_power, k_is_less, k_is_plus, k_is_minus, k_is_times, k_is_over, ki_is, k_nought_is, k_nought_nought, k_nought_input, k_nought_power, k_nought_less, k_nought_plus, k_nought_minus, k_nought_times, k_nought_over, ki_nought, k_input_is, k_input_nought, k_input_input, k_input_power, k_input_less, k_input_plus, k_input_minus, k_input_times, k_input_over, ki_input, k_power_is, k_power_nought, k_power_input, k_power_power, k_power_less, k_power_plus, k_power_minus, k_power_times, k_power_over, ki_power, k_less_is, k_less_nought, k_less_input, k_less_power, k_less_less, k_less_plus, k_less_minus, k_less_times, k_less_over, ki_less, ko_is, ko_nought, ko_input, ko_power, ko_less, ko_plus, ko_minus, ko_times, ko_over, ki_o, q1', er, grd_pos, fmodP, fdivP]
      · have q1' : (dp < 1) = False := eq_false q1
        have q2' : (c % 9 < 2) = True := eq_true (q.resolve_left q1)
        simp (disch := first | omega | (apply cmx <;> omega) | (apply dvok <;> omega) | decide | fail) only [runD, s_cons, s_nil, s_frz, s_fgt, seq_next, seq_ret, seq_err, s_ifs, if_t, if_f, s_fors, s_whl, s_asg, s_nm_fz, s_nm_fr, s_tp, s_ret, s_rse, s_put, s_app, s_ext, s_par, e_and, e_or, and_t, and_f, or_t, or_f, test_bl, e_lc, ev.eq_1, ev.eq_2, ev.eq_3, ev.eq_4, ev.eq_5, ev.eq_6, ev.eq_7, ev.eq_8, ev.eq_9, ev.eq_12, ev.eq_13, ev.eq_14, ev.eq_15, ev.eq_16, ev.eq_17, ev.eq_18, ev.eq_19, ev.eq_20, ev.eq_21, ev.eq_22, ev.eq_23, evs, evo, evIt, MP.R.bind_ok, MP.R.bind_err, notBo_fz, notBo_fr, retK_fz, retK_fr, retK_bo, noErr_ok, binD.eq_1, binD.eq_2, binD.eq_3, binD.eq_4, binD.eq_5, binD.eq_6, binD.eq_7, binD.eq_8, binD.eq_9, binD.eq_10, binD.eq_11, cmpD.eq_3, cmpD.eq_4, cmpD.eq_5, cmpD.eq_6, cmpD.eq_7, cmpD.eq_8, cmpD.eq_9, cmpD.eq_10, cmpD.eq_11, cmpD.eq_12, cmpD.eq_13, ixD.eq_1, ixD.eq_2, ixD.eq_3, ixD.eq_4, ixD.eq_5, biD.eq_1, biD.eq_2, biD.eq_3, biD.eq_4, biD.eq_5, biD.eq_6, biD.eq_7, biD.eq_8, biD.eq_9, biD.eq_10, biD.eq_11, biD.eq_12, biD.eq_13, biD.eq_14, biD.eq_15, biD.eq_16, biD.eq_17, biD.eq_18, biD.eq_19, biD.eq_20, biD.eq_21, biD.eq_22, biD.eq_23, slD.eq_1, slD.eq_2, slD.eq_3, negD.eq_1, isi_int_int, isi_int_bool, isi_str_str, isi_tup_tup, notBos, asInt, asStr, asDic, rOpt, optOk, callD, isBo, bindTg, bindSlots, wipeD, ownL, ownK, ownAt, appD, extD.eq_1, putD.eq_1, putD.eq_2, setOwn, freeze, itemsD.eq_1, itemsD.eq_2, itemsD.eq_3, rng1D.eq_1, rng2D.eq_1, small62, Int.toNat_natCast, turnF, turnL, cast0, cast1, cast2, cast3, cast4, decide_true, decide_false,  freeze, app_len, rep_len,  inD.eq_1, inD.eq_2, inD.eq_3, tyD, MP.isNon, optCons, grd_T, slots_cons, slots_nil, immut, immuts, Option.map_some, Option.map_none, Option.getD_some, Option.getD_none, Option.bind_some, List.getElem?_cons_zero, List.getElem?_cons_succ, List.set_cons_zero, List.set_cons_succ, List.map_cons, List.map_nil, List.any_cons, List.any_nil, List.length_cons, List.length_nil, Nat.reduceAdd, Nat.reduceSub, List.replicate_succ, List.replicate_zero, List.cons_append, List.nil_append, Bool.or_false, Bool.false_and, Bool.and_false, Bool.false_eq_true, if_false, if_true, reduceIte, Bool.not_true, Bool.not_false, ne_eq, not_false_eq_true, and_true, true_and, and_self, Int.reduceEq, Int.reduceNe, not_true_eq_false, Int.reduceToNat, Int.reducePow, Int.reduceMul, Int.reduceAdd, Int.reduceSub, Int.reduceNeg, Nat.reduceLT, okD_int, okD_non, okD_bl, eqD_int, cmp_eqI, cmp_neI, at_0, at_1, at_2, at_3, at_4, cut_1, k_is_is, k_is_nought, k_is_input, k_is_power, k_is_less, k_is_plus, k_is_minus, k_is_times, k_is_over, ki_is, k_nought_is, k_nought_nought, k_nought_input, k_nought_power, k_nought_less, k_nought_plus, k_nought_minus, k_nought_times, k_nought_over, ki_nought, k_input_is, k_input_nought, k_input_input, k_input_power, k_input_less, k_input_plus, k_input_minus, k_input_times, k_input_over, ki_input, k_power_is, k_power_nought, k_power_input, k_power_power, k_power_less, k_power_plus, k_power_minus, k_power_times, k_power_over, ki_power, k_less_is, k_less_nought, k_less_input, k_less_power, k_less_less, k_less_plus, k_less_minus, k_less_times, k_less_over, ki_less, ko_is, ko_nought, ko_input, ko_power, ko_less, ko_plus, ko_minus, ko_times, ko_over, ki_o, q1', q2', er, grd_pos, fmodP, fdivP]
    · have q1 : ¬ dp < 1 := fun z => q (.inl z)
      have q2 : ¬ c % 9 < 2 := fun z => q (.inr z)
      have q1' : (dp < 1) = False := eq_false q1
      have q2' : (c % 9 < 2) = False := eq_false q2
      match k, hd with
      | 0, hd => omega
      | k + 1, hd =>
      have m1 := mix_eq (c := c) (k := 1) h1 (by omega) (by omega) (by omega)
      have m2 := mix_eq (c := c) (k := 2) h1 (by omega) (by omega) (by omega)
      have m3 := mix_eq (c := c) (k := 3) h1 (by omega) (by omega) (by omega)
      have m4 := mix_eq (c := c) (k := 4) h1 (by omega) (by omega) (by omega)
      have g1 := mixZ_ge c 1
      have g2 := mixZ_ge c 2
      have g3 := mixZ_ge c 3
      have g4 := mixZ_ge c 4
      obtain ⟨dn, hdn⟩ : ∃ dn : Nat, dp.toNat = dn + 1 := ⟨dp.toNat - 1, by omega⟩
      have p5 : 1 ≤ 5 ^ dn := Nat.le_trans Nat.one_le_two_pow (Nat.pow_le_pow_left (by decide) _)
      have p6 : 5 ^ (dn + 1) = 5 * 5 ^ dn := by rw [Nat.pow_succ, Nat.mul_comm]
      have p7 : 5 ^ (dn - 1) ≤ 5 ^ dn := Nat.pow_le_pow_right (by decide) (by omega)
      have d1 : (dp - 1).toNat = dn := by omega
      have d2 : (dp - 2).toNat = dn - 1 := by omega
      obtain ⟨w, hw8⟩ : ∃ w : Int, c % 9 / 8 = w := ⟨_, rfl⟩
      obtain ⟨r1, e1, o1, t1, u1, s1⟩ := ltree_eq hw hb k (mixZ c 1) (dp - 1) (pw - w) (by omega) (by omega) (by omega) (by omega)
      rw [d1] at s1
      by_cases q8 : c % 9 = 8 ∧ 0 < pw
      · have a' : (c % 9 = 8) = True := eq_true q8.1
        have b' : (0 < pw) = True := eq_true q8.2
        refine ⟨.pw r1 (c / 9 % 9 - 4), ?_, ⟨o1, by omega, by omega⟩, by simp only [Rk.ht]; omega, by simp only [Rk.pws]; omega, by simp only [Rk.size]; rw [hdn]; omega⟩
        simp (disch := first | omega | (apply cmx <;> omega) | (apply dvok <;> omega) | decide | fail) only [runD, s_cons, s_nil, s_frz, s_fgt, seq_next, seq_ret, seq_err, s_ifs, if_t, if_f, s_fors, s_whl, s_asg, s_nm_fz, s_nm_fr, s_tp, s_ret, s_rse, s_put, s_app, s_ext, s_par, e_and, e_or, and_t, and_f, or_t, or_f, test_bl, e_lc, ev.eq_1, ev.eq_2, ev.eq_3, ev.eq_4, ev.eq_5, ev.eq_6, ev.eq_7, ev.eq_8, ev.eq_9, ev.eq_12, ev.eq_13, ev.eq_14, ev.eq_15, ev.eq_16, ev.eq_17, ev.eq_18, ev.eq_19, ev.eq_20, ev.eq_21, ev.eq_22, ev.eq_23, evs, evo, evIt, MP.R.bind_ok, MP.R.bind_err, notBo_fz, notBo_fr, retK_fz, retK_fr, retK_bo, noErr_ok, binD.eq_1, binD.eq_2, binD.eq_3, binD.eq_4, binD.eq_5, binD.eq_6, binD.eq_7, binD.eq_8, binD.eq_9, binD.eq_10, binD.eq_11, cmpD.eq_3, cmpD.eq_4, cmpD.eq_5, cmpD.eq_6, cmpD.eq_7, cmpD.eq_8, cmpD.eq_9, cmpD.eq_10, cmpD.eq_11, cmpD.eq_12, cmpD.eq_13, ixD.eq_1, ixD.eq_2, ixD.eq_3, ixD.eq_4, ixD.eq_5, biD.eq_1, biD.eq_2, biD.eq_3, biD.eq_4, biD.eq_5, biD.eq_6, biD.eq_7, biD.eq_8, biD.eq_9, biD.eq_10, biD.eq_11, biD.eq_12, biD.eq_13, biD.eq_14, biD.eq_15, biD.eq_16, biD.eq_17, biD.eq_18, biD.eq_19, biD.eq_20, biD.eq_21, biD.eq_22, biD.eq_23, slD.eq_1, slD.eq_2, slD.eq_3, negD.eq_1, isi_int_int, isi_int_bool, isi_str_str, isi_tup_tup, notBos, asInt, asStr, asDic, rOpt, optOk, callD, isBo, bindTg, bindSlots, wipeD, ownL, ownK, ownAt, appD, extD.eq_1, putD.eq_1, putD.eq_2, setOwn, freeze, itemsD.eq_1, itemsD.eq_2, itemsD.eq_3, rng1D.eq_1, rng2D.eq_1, small62, Int.toNat_natCast, turnF, turnL, cast0, cast1, cast2, cast3, cast4, decide_true, decide_false,  freeze, app_len, rep_len,  inD.eq_1, inD.eq_2, inD.eq_3, tyD, MP.isNon, optCons, grd_T, slots_cons, slots_nil, immut, immuts, Option.map_some, Option.map_none, Option.getD_some, Option.getD_none, Option.bind_some, List.getElem?_cons_zero, List.getElem?_cons_succ, List.set_cons_zero, List.set_cons_succ, List.map_cons, List.map_nil, List.any_cons, List.any_nil, List.length_cons, List.length_nil, Nat.reduceAdd, Nat.reduceSub, List.replicate_succ, List.replicate_zero, List.cons_append, List.nil_append, Bool.or_false, Bool.false_and, Bool.and_false, Bool.false_eq_true, if_false, if_true, reduceIte, Bool.not_true, Bool.not_false, ne_eq, not_false_eq_true, and_true, true_and, and_self, Int.reduceEq, Int.reduceNe, not_true_eq_false, Int.reduceToNat, Int.reducePow, Int.reduceMul, Int.reduceAdd, Int.reduceSub, Int.reduceNeg, Nat.reduceLT, okD_int, okD_non, okD_bl, eqD_int, cmp_eqI, cmp_neI, at_0, at_1, at_2, at_3, at_4, cut_1, k_is_is, k_is_nought, k_is_input, k_is_power, k_is_less, k_is_plus, k_is_minus, k_is_times, k_is_over, ki_is, k_nought_is, k_nought_nought, k_nought_input, k_nought_power, k_nought_less, k_nought_plus, k_nought_minus, k_nought_times, k_nought_over, ki_nought, k_input_is, k_input_nought, k_input_input, k_input_power, k_input_less, k_input_plus, k_input_minus, k_input_times, k_input_over, ki_input, k_power_is, k_power_nought, k_power_input, k_power_power, k_power_less, k_power_plus, k_power_minus, k_power_times, k_power_over, ki_power, k_less_is, k_less_nought, k_less_input, k_less_power, k_less_less, k_less_plus, k_less_minus, k_less_times, k_less_over, ki_less, ko_is, ko_nought, ko_input, ko_power, ko_less, ko_plus, ko_minus, ko_times, ko_over, ki_o, q1', q2', a', b', m1, hw8, e1, grd_pos, fmodP, fdivP]
        rfl
      · obtain ⟨r2, e2, o2, t2, u2, s2⟩ := ltree_eq hw hb k (mixZ c 2) (dp - 1) pw (by omega) (by omega) (by omega) (by omega)
        rw [d1] at s2
        have hw0 : r1.pws ≤ pw.toNat := by omega
        by_cases q7 : c % 9 = 7
        · have a' : (c % 9 = 8) = False := eq_false (by omega)
          have b' : (c % 9 = 7) = True := eq_true q7
          obtain ⟨r3, e3, o3, t3, u3, s3⟩ := ltree_eq hw hb k (mixZ c 3) (dp - 2) pw (by omega) (by omega) (by omega) (by omega)
          rw [d2] at s3
          obtain ⟨r4, e4, o4, t4, u4, s4⟩ := ltree_eq hw hb k (mixZ c 4) (dp - 2) pw (by omega) (by omega) (by omega) (by omega)
          rw [d2] at s4
          refine ⟨.less r1 r2 r3 r4, ?_, ⟨o1, o2, o3, o4⟩, by simp only [Rk.ht]; omega, by simp only [Rk.pws]; omega, by simp only [Rk.size]; rw [hdn]; omega⟩
          simp (disch := first | omega | (apply cmx <;> omega) | (apply dvok <;> omega) | decide | fail) only [runD, s_cons, s_nil, s_frz, s_fgt, seq_next, seq_ret, seq_err, s_ifs, if_t, if_f, s_fors, s_whl, s_asg, s_nm_fz, s_nm_fr, s_tp, s_ret, s_rse, s_put, s_app, s_ext, s_par, e_and, e_or, and_t, and_f, or_t, or_f, test_bl, e_lc, ev.eq_1, ev.eq_2, ev.eq_3, ev.eq_4, ev.eq_5, ev.eq_6, ev.eq_7, ev.eq_8, ev.eq_9, ev.eq_12, ev.eq_13, ev.eq_14, ev.eq_15, ev.eq_16, ev.eq_17, ev.eq_18, ev.eq_19, ev.eq_20, ev.eq_21, ev.eq_22, ev.eq_23, evs, evo, evIt, MP.R.bind_ok, MP.R.bind_err, notBo_fz, notBo_fr, retK_fz, retK_fr, retK_bo, noErr_ok, binD.eq_1, binD.eq_2, binD.eq_3, binD.eq_4, binD.eq_5, binD.eq_6, binD.eq_7, binD.eq_8, binD.eq_9, binD.eq_10, binD.eq_11, cmpD.eq_3, cmpD.eq_4, cmpD.eq_5, cmpD.eq_6, cmpD.eq_7, cmpD.eq_8, cmpD.eq_9, cmpD.eq_10, cmpD.eq_11, cmpD.eq_12, cmpD.eq_13, ixD.eq_1, ixD.eq_2, ixD.eq_3, ixD.eq_4, ixD.eq_5, biD.eq_1, biD.eq_2, biD.eq_3, biD.eq_4, biD.eq_5, biD.eq_6, biD.eq_7, biD.eq_8, biD.eq_9, biD.eq_10, biD.eq_11, biD.eq_12, biD.eq_13, biD.eq_14, biD.eq_15, biD.eq_16, biD.eq_17, biD.eq_18, biD.eq_19, biD.eq_20, biD.eq_21, biD.eq_22, biD.eq_23, slD.eq_1, slD.eq_2, slD.eq_3, negD.eq_1, isi_int_int, isi_int_bool, isi_str_str, isi_tup_tup, notBos, asInt, asStr, asDic, rOpt, optOk, callD, isBo, bindTg, bindSlots, wipeD, ownL, ownK, ownAt, appD, extD.eq_1, putD.eq_1, putD.eq_2, setOwn, freeze, itemsD.eq_1, itemsD.eq_2, itemsD.eq_3, rng1D.eq_1, rng2D.eq_1, small62, Int.toNat_natCast, turnF, turnL, cast0, cast1, cast2, cast3, cast4, decide_true, decide_false,  freeze, app_len, rep_len,  inD.eq_1, inD.eq_2, inD.eq_3, tyD, MP.isNon, optCons, grd_T, slots_cons, slots_nil, immut, immuts, Option.map_some, Option.map_none, Option.getD_some, Option.getD_none, Option.bind_some, List.getElem?_cons_zero, List.getElem?_cons_succ, List.set_cons_zero, List.set_cons_succ, List.map_cons, List.map_nil, List.any_cons, List.any_nil, List.length_cons, List.length_nil, Nat.reduceAdd, Nat.reduceSub, List.replicate_succ, List.replicate_zero, List.cons_append, List.nil_append, Bool.or_false, Bool.false_and, Bool.and_false, Bool.false_eq_true, if_false, if_true, reduceIte, Bool.not_true, Bool.not_false, ne_eq, not_false_eq_true, and_true, true_and, and_self, Int.reduceEq, Int.reduceNe, not_true_eq_false, Int.reduceToNat, Int.reducePow, Int.reduceMul, Int.reduceAdd, Int.reduceSub, Int.reduceNeg, Nat.reduceLT, okD_int, okD_non, okD_bl, eqD_int, cmp_eqI, cmp_neI, at_0, at_1, at_2, at_3, at_4, cut_1, k_is_is, k_is_nought, k_is_input, k_is_power, k_is_less, k_is_plus, k_is_minus, k_is_times, k_is_over, ki_is, k_nought_is, k_nought_nought, k_nought_input, k_nought_power, k_nought_less, k_nought_plus, k_nought_minus, k_nought_times, k_nought_over, ki_nought, k_input_is, k_input_nought, k_input_input, k_input_power, k_input_less, k_input_plus, k_input_minus, k_input_times, k_input_over, ki_input, k_power_is, k_power_nought, k_power_input, k_power_power, k_power_less, k_power_plus, k_power_minus, k_power_times, k_power_over, ki_power, k_less_is, k_less_nought, k_less_input, k_less_power, k_less_less, k_less_plus, k_less_minus, k_less_times, k_less_over, ki_less, ko_is, ko_nought, ko_input, ko_power, ko_less, ko_plus, ko_minus, ko_times, ko_over, ki_o, q1', q2', a', b', m1, m2, m3, m4, hw8, e1, e2, e3, e4, grd_pos, fmodP, fdivP]
          rfl
        · obtain ⟨o, eo⟩ := at_ops (i := c / 9 % 4) (by omega) (by omega)
          have b' : (c % 9 = 7) = False := eq_false q7
          refine ⟨.bin o r1 r2, ?_, ⟨o1, o2⟩, by simp only [Rk.ht]; omega, by simp only [Rk.pws]; omega, by simp only [Rk.size]; rw [hdn]; omega⟩
          by_cases q9 : c % 9 = 8
          · have a' : (c % 9 = 8) = True := eq_true q9
            have c' : (0 < pw) = False := eq_false fun z => q8 ⟨q9, z⟩
            simp (disch := first | omega | (apply cmx <;> omega) | (apply dvok <;> omega) | decide | fail) only [runD, s_cons, s_nil, s_frz, s_fgt, seq_next, seq_ret, seq_err, s_ifs, if_t, if_f, s_fors, s_whl, s_asg, s_nm_fz, s_nm_fr, s_tp, s_ret, s_rse, s_put, s_app, s_ext, s_par, e_and, e_or, and_t, and_f, or_t, or_f, test_bl, e_lc, ev.eq_1, ev.eq_2, ev.eq_3, ev.eq_4, ev.eq_5, ev.eq_6, ev.eq_7, ev.eq_8, ev.eq_9, ev.eq_12, ev.eq_13, ev.eq_14, ev.eq_15, ev.eq_16, ev.eq_17, ev.eq_18, ev.eq_19, ev.eq_20, ev.eq_21, ev.eq_22, ev.eq_23, evs, evo, evIt, MP.R.bind_ok, MP.R.bind_err, notBo_fz, notBo_fr, retK_fz, retK_fr, retK_bo, noErr_ok, binD.eq_1, binD.eq_2, binD.eq_3, binD.eq_4, binD.eq_5, binD.eq_6, binD.eq_7, binD.eq_8, binD.eq_9, binD.eq_10, binD.eq_11, cmpD.eq_3, cmpD.eq_4, cmpD.eq_5, cmpD.eq_6, cmpD.eq_7, cmpD.eq_8, cmpD.eq_9, cmpD.eq_10, cmpD.eq_11, cmpD.eq_12, cmpD.eq_13, ixD.eq_1, ixD.eq_2, ixD.eq_3, ixD.eq_4, ixD.eq_5, biD.eq_1, biD.eq_2, biD.eq_3, biD.eq_4, biD.eq_5, biD.eq_6, biD.eq_7, biD.eq_8, biD.eq_9, biD.eq_10, biD.eq_11, biD.eq_12, biD.eq_13, biD.eq_14, biD.eq_15, biD.eq_16, biD.eq_17, biD.eq_18, biD.eq_19, biD.eq_20, biD.eq_21, biD.eq_22, biD.eq_23, slD.eq_1, slD.eq_2, slD.eq_3, negD.eq_1, isi_int_int, isi_int_bool, isi_str_str, isi_tup_tup, notBos, asInt, asStr, asDic, rOpt, optOk, callD, isBo, bindTg, bindSlots, wipeD, ownL, ownK, ownAt, appD, extD.eq_1, putD.eq_1, putD.eq_2, setOwn, freeze, itemsD.eq_1, itemsD.eq_2, itemsD.eq_3, rng1D.eq_1, rng2D.eq_1, small62, Int.toNat_natCast, turnF, turnL, cast0, cast1, cast2, cast3, cast4, decide_true, decide_false,  freeze, app_len, rep_len,  inD.eq_1, inD.eq_2, inD.eq_3, tyD, MP.isNon, optCons, grd_T, slots_cons, slots_nil, immut, immuts, Option.map_some, Option.map_none, Option.getD_some, Option.getD_none, Option.bind_some, List.getElem?_cons_zero, List.getElem?_cons_succ, List.set_cons_zero, List.set_cons_succ, List.map_cons, List.map_nil, List.any_cons, List.any_nil, List.length_cons, List.length_nil, Nat.reduceAdd, Nat.reduceSub, List.replicate_succ, List.replicate_zero, List.cons_append, List.nil_append, Bool.or_false, Bool.false_and, Bool.and_false, Bool.false_eq_true, if_false, if_true, reduceIte, Bool.not_true, Bool.not_false, ne_eq, not_false_eq_true, and_true, true_and, and_self, Int.reduceEq, Int.reduceNe, not_true_eq_false, Int.reduceToNat, Int.reducePow, Int.reduceMul, Int.reduceAdd, Int.reduceSub, Int.reduceNeg, Nat.reduceLT, okD_int, okD_non, okD_bl, eqD_int, cmp_eqI, cmp_neI, at_0, at_1, at_2, at_3, at_4, cut_1, k_is_is, k_is_nought, k_is_input, k_is_power, k_is_less, k_is_plus, k_is_minus, k_is_times, k_is_over, ki_is, k_nought_is, k_nought_nought, k_nought_input, k_nought_power, k_nought_less, k_nought_plus, k_nought_minus, k_nought_times, k_nought_over, ki_nought, k_input_is, k_input_nought, k_input_input, k_input_power, k_input_less, k_input_plus, k_input_minus, k_input_times, k_input_over, ki_input, k_power_is, k_power_nought, k_power_input, k_power_power, k_power_less, k_power_plus, k_power_minus, k_power_times, k_power_over, ki_power, k_less_is, k_less_nought, k_less_input, k_less_power, k_less_less, k_less_plus, k_less_minus, k_less_times, k_less_over, ki_less, ko_is, ko_nought, ko_input, ko_power, ko_less, ko_plus, ko_minus, ko_times, ko_over, ki_o, q1', q2', a', b', c', m1, m2, hw8, e1, e2, eo, grd_pos, fmodP, fdivP]
            rfl
          · have a' : (c % 9 = 8) = False := eq_false q9
            simp (disch := first | omega | (apply cmx <;> omega) | (apply dvok <;> omega) | decide | fail) only [runD, s_cons, s_nil, s_frz, s_fgt, seq_next, seq_ret, seq_err, s_ifs, if_t, if_f, s_fors, s_whl, s_asg, s_nm_fz, s_nm_fr, s_tp, s_ret, s_rse, s_put, s_app, s_ext, s_par, e_and, e_or, and_t, and_f, or_t, or_f, test_bl, e_lc, ev.eq_1, ev.eq_2, ev.eq_3, ev.eq_4, ev.eq_5, ev.eq_6, ev.eq_7, ev.eq_8, ev.eq_9, ev.eq_12, ev.eq_13, ev.eq_14, ev.eq_15, ev.eq_16, ev.eq_17, ev.eq_18, ev.eq_19, ev.eq_20, ev.eq_21, ev.eq_22, ev.eq_23, evs, evo, evIt, MP.R.bind_ok, MP.R.bind_err, notBo_fz, notBo_fr, retK_fz, retK_fr, retK_bo, noErr_ok, binD.eq_1, binD.eq_2, binD.eq_3, binD.eq_4, binD.eq_5, binD.eq_6, binD.eq_7, binD.eq_8, binD.eq_9, binD.eq_10, binD.eq_11, cmpD.eq_3, cmpD.eq_4, cmpD.eq_5, cmpD.eq_6, cmpD.eq_7, cmpD.eq_8, cmpD.eq_9, cmpD.eq_10, cmpD.eq_11, cmpD.eq_12, cmpD.eq_13, ixD.eq_1, ixD.eq_2, ixD.eq_3, ixD.eq_4, ixD.eq_5, biD.eq_1, biD.eq_2, biD.eq_3, biD.eq_4, biD.eq_5, biD.eq_6, biD.eq_7, biD.eq_8, biD.eq_9, biD.eq_10, biD.eq_11, biD.eq_12, biD.eq_13, biD.eq_14, biD.eq_15, biD.eq_16, biD.eq_17, biD.eq_18, biD.eq_19, biD.eq_20, biD.eq_21, biD.eq_22, biD.eq_23, slD.eq_1, slD.eq_2, slD.eq_3, negD.eq_1, isi_int_int, isi_int_bool, isi_str_str, isi_tup_tup, notBos, asInt, asStr, asDic, rOpt, optOk, callD, isBo, bindTg, bindSlots, wipeD, ownL, ownK, ownAt, appD, extD.eq_1, putD.eq_1, putD.eq_2, setOwn, freeze, itemsD.eq_1, itemsD.eq_2, itemsD.eq_3, rng1D.eq_1, rng2D.eq_1, small62, Int.toNat_natCast, turnF, turnL, cast0, cast1, cast2, cast3, cast4, decide_true, decide_false,  freeze, app_len, rep_len,  inD.eq_1, inD.eq_2, inD.eq_3, tyD, MP.isNon, optCons, grd_T, slots_cons, slots_nil, immut, immuts, Option.map_some, Option.map_none, Option.getD_some, Option.getD_none, Option.bind_some, List.getElem?_cons_zero, List.getElem?_cons_succ, List.set_cons_zero, List.set_cons_succ, List.map_cons, List.map_nil, List.any_cons, List.any_nil, List.length_cons, List.length_nil, Nat.reduceAdd, Nat.reduceSub, List.replicate_succ, List.replicate_zero, List.cons_append, List.nil_append, Bool.or_false, Bool.false_and, Bool.and_false, Bool.false_eq_true, if_false, if_true, reduceIte, Bool.not_true, Bool.not_false, ne_eq, not_false_eq_true, and_true, true_and, and_self, Int.reduceEq, Int.reduceNe, not_true_eq_false, Int.reduceToNat, Int.reducePow, Int.reduceMul, Int.reduceAdd, Int.reduceSub, Int.reduceNeg, Nat.reduceLT, okD_int, okD_non, okD_bl, eqD_int, cmp_eqI, cmp_neI, at_0, at_1, at_2, at_3, at_4, cut_1, k_is_is, k_is_nought, k_is_input, k_is_power, k_is_less, k_is_plus, k_is_minus, k_is_times, k_is_over, ki_is, k_nought_is, k_nought_nought, k_nought_input, k_nought_power, k_nought_less, k_nought_plus, k_nought_minus, k_nought_times, k_nought_over, ki_nought, k_input_is, k_input_nought, k_input_input, k_input_power, k_input_less, k_input_plus, k_input_minus, k_input_times, k_input_over, ki_input, k_power_is, k_power_nought, k_power_input, k_power_power, k_power_less, k_power_plus, k_power_minus, k_power_times, k_power_over, ki_power, k_less_is, k_less_nought, k_less_input, k_less_power, k_less_less, k_less_plus, k_less_minus, k_less_times, k_less_over, ki_less, ko_is, ko_nought, ko_input, ko_power, ko_less, ko_plus, ko_minus, ko_times, ko_over, ki_o, q1', q2', a', b', m1, m2, hw8, e1, e2, eo, grd_pos, fmodP, fdivP]
            rfl
termination_by k => k
end MPk07

namespace MPk07
open PySem PySem.Spec PyProof.Rows L2 MP
theorem parts_eq (r : Rk) : m_parts_of [r.d] = .ok (.lst (r.parts.map Rk.d), .fr) := by
  unfold m_parts_of ir_parts_of
  cases r <;> simp (disch := first | omega | (apply cmx <;> omega) | (apply dvok <;> omega) | decide | fail) only [runD, s_cons, s_nil, s_frz, s_fgt, seq_next, seq_ret, seq_err, s_ifs, if_t, if_f, s_fors, s_whl, s_asg, s_nm_fz, s_nm_fr, s_tp, s_ret, s_rse, s_put, s_app, s_ext, s_par, e_and, e_or, and_t, and_f, or_t, or_f, test_bl, e_lc, ev.eq_1, ev.eq_2, ev.eq_3, ev.eq_4, ev.eq_5, ev.eq_6, ev.eq_7, ev.eq_8, ev.eq_9, ev.eq_12, ev.eq_13, ev.eq_14, ev.eq_15, ev.eq_16, ev.eq_17, ev.eq_18, ev.eq_19, ev.eq_20, ev.eq_21, ev.eq_22, ev.eq_23, evs, evo, evIt, MP.R.bind_ok, MP.R.bind_err, notBo_fz, notBo_fr, retK_fz, retK_fr, retK_bo, noErr_ok, binD.eq_1, binD.eq_2, binD.eq_3, binD.eq_4, binD.eq_5, binD.eq_6, binD.eq_7, binD.eq_8, binD.eq_9, binD.eq_10, binD.eq_11, cmpD.eq_3, cmpD.eq_4, cmpD.eq_5, cmpD.eq_6, cmpD.eq_7, cmpD.eq_8, cmpD.eq_9, cmpD.eq_10, cmpD.eq_11, cmpD.eq_12, cmpD.eq_13, ixD.eq_1, ixD.eq_2, ixD.eq_3, ixD.eq_4, ixD.eq_5, biD.eq_1, biD.eq_2, biD.eq_3, biD.eq_4, biD.eq_5, biD.eq_6, biD.eq_7, biD.eq_8, biD.eq_9, biD.eq_10, biD.eq_11, biD.eq_12, biD.eq_13, biD.eq_14, biD.eq_15, biD.eq_16, biD.eq_17, biD.eq_18, biD.eq_19, biD.eq_20, biD.eq_21, biD.eq_22, biD.eq_23, slD.eq_1, slD.eq_2, slD.eq_3, negD.eq_1, isi_int_int, isi_int_bool, isi_str_str, isi_tup_tup, notBos, asInt, asStr, asDic, rOpt, optOk, callD, isBo, bindTg, bindSlots, wipeD, ownL, ownK, ownAt, appD, extD.eq_1, putD.eq_1, putD.eq_2, setOwn, freeze, itemsD.eq_1, itemsD.eq_2, itemsD.eq_3, rng1D.eq_1, rng2D.eq_1, small62, Int.toNat_natCast, turnF, turnL, cast0, cast1, cast2, cast3, cast4, decide_true, decide_false,  freeze, app_len, rep_len,  inD.eq_1, inD.eq_2, inD.eq_3, tyD, MP.isNon, optCons, grd_T, slots_cons, slots_nil, immut, immuts, Option.map_some, Option.map_none, Option.getD_some, Option.getD_none, Option.bind_some, List.getElem?_cons_zero, List.getElem?_cons_succ, List.set_cons_zero, List.set_cons_succ, List.map_cons, List.map_nil, List.any_cons, List.any_nil, List.length_cons, List.length_nil, Nat.reduceAdd, Nat.reduceSub, List.replicate_succ, List.replicate_zero, List.cons_append, List.nil_append, Bool.or_false, Bool.false_and, Bool.and_false, Bool.false_eq_true, if_false, if_true, reduceIte, Bool.not_true, Bool.not_false, ne_eq, not_false_eq_true, and_true, true_and, and_self, Int.reduceEq, Int.reduceNe, not_true_eq_false, Int.reduceToNat, Int.reducePow, Int.reduceMul, Int.reduceAdd, Int.reduceSub, Int.reduceNeg, Nat.reduceLT, okD_int, okD_non, okD_bl, eqD_int, cmp_eqI, cmp_neI, at_0, at_1, at_2, at_3, at_4, cut_1, k_is_is, k_is_nought, k_is_input, k_is_power, k_is_less, k_is_plus, k_is_minus, k_is_times, k_is_over, ki_is, k_nought_is, k_nought_nought, k_nought_input, k_nought_power, k_nought_less, k_nought_plus, k_nought_minus, k_nought_times, k_nought_over, ki_nought, k_input_is, k_input_nought, k_input_input, k_input_power, k_input_less, k_input_plus, k_input_minus, k_input_times, k_input_over, ki_input, k_power_is, k_power_nought, k_power_input, k_power_power, k_power_less, k_power_plus, k_power_minus, k_power_times, k_power_over, ki_power, k_less_is, k_less_nought, k_less_input, k_less_power, k_less_less, k_less_plus, k_less_minus, k_less_times, k_less_over, ki_less, ko_is, ko_nought, ko_input, ko_power, ko_less, ko_plus, ko_minus, ko_times, ko_over, ki_o, Rk.d, Rk.parts, grd_pos]
theorem mapM_int1 (a : Int) : [D.int a].mapM asInt = some [a] := rfl
theorem mapM_int2 (a b : Int) : [D.int a, D.int b].mapM asInt = some [a, b] := rfl
theorem mapM_int4 (a b c d : Int) : [D.int a, D.int b, D.int c, D.int d].mapM asInt = some [a, b, c, d] := rfl
theorem mapM_int0 : ([] : List D).mapM asInt = some [] := rfl
theorem noughts_eq : ∀ (r : Rk) (k : Nat), r.ht < k → m_noughts k [r.d] = .ok (.int r.nn, .fz)
  | r, 0, h => absurd h (Nat.not_lt_zero _)
  | .is p m, k + 1, h => by
    show runD 2 (ir_noughts (m_noughts k)) _ = _
    have ep := parts_eq (.is p m)
    simp only [Rk.d, Rk.parts, List.map_cons, List.map_nil] at ep
    unfold ir_noughts
    simp (disch := first | omega | (apply cmx <;> omega) | (apply dvok <;> omega) | decide | fail) only [runD, s_cons, s_nil, s_frz, s_fgt, seq_next, seq_ret, seq_err, s_ifs, if_t, if_f, s_fors, s_whl, s_asg, s_nm_fz, s_nm_fr, s_tp, s_ret, s_rse, s_put, s_app, s_ext, s_par, e_and, e_or, and_t, and_f, or_t, or_f, test_bl, e_lc, ev.eq_1, ev.eq_2, ev.eq_3, ev.eq_4, ev.eq_5, ev.eq_6, ev.eq_7, ev.eq_8, ev.eq_9, ev.eq_12, ev.eq_13, ev.eq_14, ev.eq_15, ev.eq_16, ev.eq_17, ev.eq_18, ev.eq_19, ev.eq_20, ev.eq_21, ev.eq_22, ev.eq_23, evs, evo, evIt, MP.R.bind_ok, MP.R.bind_err, notBo_fz, notBo_fr, retK_fz, retK_fr, retK_bo, noErr_ok, binD.eq_1, binD.eq_2, binD.eq_3, binD.eq_4, binD.eq_5, binD.eq_6, binD.eq_7, binD.eq_8, binD.eq_9, binD.eq_10, binD.eq_11, cmpD.eq_3, cmpD.eq_4, cmpD.eq_5, cmpD.eq_6, cmpD.eq_7, cmpD.eq_8, cmpD.eq_9, cmpD.eq_10, cmpD.eq_11, cmpD.eq_12, cmpD.eq_13, ixD.eq_1, ixD.eq_2, ixD.eq_3, ixD.eq_4, ixD.eq_5, biD.eq_1, biD.eq_2, biD.eq_3, biD.eq_4, biD.eq_5, biD.eq_6, biD.eq_7, biD.eq_8, biD.eq_9, biD.eq_10, biD.eq_11, biD.eq_12, biD.eq_13, biD.eq_14, biD.eq_15, biD.eq_16, biD.eq_17, biD.eq_18, biD.eq_19, biD.eq_20, biD.eq_21, biD.eq_22, biD.eq_23, slD.eq_1, slD.eq_2, slD.eq_3, negD.eq_1, isi_int_int, isi_int_bool, isi_str_str, isi_tup_tup, notBos, asInt, asStr, asDic, rOpt, optOk, callD, isBo, bindTg, bindSlots, wipeD, ownL, ownK, ownAt, appD, extD.eq_1, putD.eq_1, putD.eq_2, setOwn, freeze, itemsD.eq_1, itemsD.eq_2, itemsD.eq_3, rng1D.eq_1, rng2D.eq_1, small62, Int.toNat_natCast, turnF, turnL, cast0, cast1, cast2, cast3, cast4, decide_true, decide_false,  freeze, app_len, rep_len,  inD.eq_1, inD.eq_2, inD.eq_3, tyD, MP.isNon, optCons, grd_T, slots_cons, slots_nil, immut, immuts, Option.map_some, Option.map_none, Option.getD_some, Option.getD_none, Option.bind_some, List.getElem?_cons_zero, List.getElem?_cons_succ, List.set_cons_zero, List.set_cons_succ, List.map_cons, List.map_nil, List.any_cons, List.any_nil, List.length_cons, List.length_nil, Nat.reduceAdd, Nat.reduceSub, List.replicate_succ, List.replicate_zero, List.cons_append, List.nil_append, Bool.or_false, Bool.false_and, Bool.and_false, Bool.false_eq_true, if_false, if_true, reduceIte, Bool.not_true, Bool.not_false, ne_eq, not_false_eq_true, and_true, true_and, and_self, Int.reduceEq, Int.reduceNe, not_true_eq_false, Int.reduceToNat, Int.reducePow, Int.reduceMul, Int.reduceAdd, Int.reduceSub, Int.reduceNeg, Nat.reduceLT, okD_int, okD_non, okD_bl, eqD_int, cmp_eqI, cmp_neI, at_0, at_1, at_2, at_3, at_4, cut_1, k_is_is, k_is_nought, k_is_input, k_is_power, k_is_less, k_is_plus, k_is_minus, k_is_times, k_is_over, ki_is, k_nought_is, k_nought_nought, k_nought_input, k_nought_power, k_nought_less, k_nought_plus, k_nought_minus, k_nought_times, k_nought_over, ki_nought, k_input_is, k_input_nought, k_input_input, k_input_power, k_input_less, k_input_plus, k_input_minus, k_input_times, k_input_over, ki_input, k_power_is, k_power_nought, k_power_input, k_power_power, k_power_less, k_power_plus, k_power_minus, k_power_times, k_power_over, ki_power, k_less_is, k_less_nought, k_less_input, k_less_power, k_less_less, k_less_plus, k_less_minus, k_less_times, k_less_over, ki_less, ko_is, ko_nought, ko_input, ko_power, ko_less, ko_plus, ko_minus, ko_times, ko_over, ki_o, ep, Rk.d, Rk.parts, evItems, turnL, mapM_int0, List.sum_nil, Rk.nn, grd_pos]
  | .nought, k + 1, h => by
    show runD 2 (ir_noughts (m_noughts k)) _ = _
    unfold ir_noughts
    simp (disch := first | omega | (apply cmx <;> omega) | (apply dvok <;> omega) | decide | fail) only [runD, s_cons, s_nil, s_frz, s_fgt, seq_next, seq_ret, seq_err, s_ifs, if_t, if_f, s_fors, s_whl, s_asg, s_nm_fz, s_nm_fr, s_tp, s_ret, s_rse, s_put, s_app, s_ext, s_par, e_and, e_or, and_t, and_f, or_t, or_f, test_bl, e_lc, ev.eq_1, ev.eq_2, ev.eq_3, ev.eq_4, ev.eq_5, ev.eq_6, ev.eq_7, ev.eq_8, ev.eq_9, ev.eq_12, ev.eq_13, ev.eq_14, ev.eq_15, ev.eq_16, ev.eq_17, ev.eq_18, ev.eq_19, ev.eq_20, ev.eq_21, ev.eq_22, ev.eq_23, evs, evo, evIt, MP.R.bind_ok, MP.R.bind_err, notBo_fz, notBo_fr, retK_fz, retK_fr, retK_bo, noErr_ok, binD.eq_1, binD.eq_2, binD.eq_3, binD.eq_4, binD.eq_5, binD.eq_6, binD.eq_7, binD.eq_8, binD.eq_9, binD.eq_10, binD.eq_11, cmpD.eq_3, cmpD.eq_4, cmpD.eq_5, cmpD.eq_6, cmpD.eq_7, cmpD.eq_8, cmpD.eq_9, cmpD.eq_10, cmpD.eq_11, cmpD.eq_12, cmpD.eq_13, ixD.eq_1, ixD.eq_2, ixD.eq_3, ixD.eq_4, ixD.eq_5, biD.eq_1, biD.eq_2, biD.eq_3, biD.eq_4, biD.eq_5, biD.eq_6, biD.eq_7, biD.eq_8, biD.eq_9, biD.eq_10, biD.eq_11, biD.eq_12, biD.eq_13, biD.eq_14, biD.eq_15, biD.eq_16, biD.eq_17, biD.eq_18, biD.eq_19, biD.eq_20, biD.eq_21, biD.eq_22, biD.eq_23, slD.eq_1, slD.eq_2, slD.eq_3, negD.eq_1, isi_int_int, isi_int_bool, isi_str_str, isi_tup_tup, notBos, asInt, asStr, asDic, rOpt, optOk, callD, isBo, bindTg, bindSlots, wipeD, ownL, ownK, ownAt, appD, extD.eq_1, putD.eq_1, putD.eq_2, setOwn, freeze, itemsD.eq_1, itemsD.eq_2, itemsD.eq_3, rng1D.eq_1, rng2D.eq_1, small62, Int.toNat_natCast, turnF, turnL, cast0, cast1, cast2, cast3, cast4, decide_true, decide_false,  freeze, app_len, rep_len,  inD.eq_1, inD.eq_2, inD.eq_3, tyD, MP.isNon, optCons, grd_T, slots_cons, slots_nil, immut, immuts, Option.map_some, Option.map_none, Option.getD_some, Option.getD_none, Option.bind_some, List.getElem?_cons_zero, List.getElem?_cons_succ, List.set_cons_zero, List.set_cons_succ, List.map_cons, List.map_nil, List.any_cons, List.any_nil, List.length_cons, List.length_nil, Nat.reduceAdd, Nat.reduceSub, List.replicate_succ, List.replicate_zero, List.cons_append, List.nil_append, Bool.or_false, Bool.false_and, Bool.and_false, Bool.false_eq_true, if_false, if_true, reduceIte, Bool.not_true, Bool.not_false, ne_eq, not_false_eq_true, and_true, true_and, and_self, Int.reduceEq, Int.reduceNe, not_true_eq_false, Int.reduceToNat, Int.reducePow, Int.reduceMul, Int.reduceAdd, Int.reduceSub, Int.reduceNeg, Nat.reduceLT, okD_int, okD_non, okD_bl, eqD_int, cmp_eqI, cmp_neI, at_0, at_1, at_2, at_3, at_4, cut_1, k_is_is, k_is_nought, k_is_input, k_is_power, k_is_less, k_is_plus, k_is_minus, k_is_times, k_is_over, ki_is, k_nought_is, k_nought_nought, k_nought_input, k_nought_power, k_nought_less, k_nought_plus, k_nought_minus, k_nought_times, k_nought_over, ki_nought, k_input_is, k_input_nought, k_input_input, k_input_power, k_input_less, k_input_plus, k_input_minus, k_input_times, k_input_over, ki_input, k_power_is, k_power_nought, k_power_input, k_power_power, k_power_less, k_power_plus, k_power_minus, k_power_times, k_power_over, ki_power, k_less_is, k_less_nought, k_less_input, k_less_power, k_less_less, k_less_plus, k_less_minus, k_less_times, k_less_over, ki_less, ko_is, ko_nought, ko_input, ko_power, ko_less, ko_plus, ko_minus, ko_times, ko_over, ki_o, Rk.d, Rk.nn, grd_pos]
  | .input s, k + 1, h => by
    show runD 2 (ir_noughts (m_noughts k)) _ = _
    have ep := parts_eq (.input s)
    simp only [Rk.d, Rk.parts, List.map_cons, List.map_nil] at ep
    unfold ir_noughts
    simp (disch := first | omega | (apply cmx <;> omega) | (apply dvok <;> omega) | decide | fail) only [runD, s_cons, s_nil, s_frz, s_fgt, seq_next, seq_ret, seq_err, s_ifs, if_t, if_f, s_fors, s_whl, s_asg, s_nm_fz, s_nm_fr, s_tp, s_ret, s_rse, s_put, s_app, s_ext, s_par, e_and, e_or, and_t, and_f, or_t, or_f, test_bl, e_lc, ev.eq_1, ev.eq_2, ev.eq_3, ev.eq_4, ev.eq_5, ev.eq_6, ev.eq_7, ev.eq_8, ev.eq_9, ev.eq_12, ev.eq_13, ev.eq_14, ev.eq_15, ev.eq_16, ev.eq_17, ev.eq_18, ev.eq_19, ev.eq_20, ev.eq_21, ev.eq_22, ev.eq_23, evs, evo, evIt, MP.R.bind_ok, MP.R.bind_err, notBo_fz, notBo_fr, retK_fz, retK_fr, retK_bo, noErr_ok, binD.eq_1, binD.eq_2, binD.eq_3, binD.eq_4, binD.eq_5, binD.eq_6, binD.eq_7, binD.eq_8, binD.eq_9, binD.eq_10, binD.eq_11, cmpD.eq_3, cmpD.eq_4, cmpD.eq_5, cmpD.eq_6, cmpD.eq_7, cmpD.eq_8, cmpD.eq_9, cmpD.eq_10, cmpD.eq_11, cmpD.eq_12, cmpD.eq_13, ixD.eq_1, ixD.eq_2, ixD.eq_3, ixD.eq_4, ixD.eq_5, biD.eq_1, biD.eq_2, biD.eq_3, biD.eq_4, biD.eq_5, biD.eq_6, biD.eq_7, biD.eq_8, biD.eq_9, biD.eq_10, biD.eq_11, biD.eq_12, biD.eq_13, biD.eq_14, biD.eq_15, biD.eq_16, biD.eq_17, biD.eq_18, biD.eq_19, biD.eq_20, biD.eq_21, biD.eq_22, biD.eq_23, slD.eq_1, slD.eq_2, slD.eq_3, negD.eq_1, isi_int_int, isi_int_bool, isi_str_str, isi_tup_tup, notBos, asInt, asStr, asDic, rOpt, optOk, callD, isBo, bindTg, bindSlots, wipeD, ownL, ownK, ownAt, appD, extD.eq_1, putD.eq_1, putD.eq_2, setOwn, freeze, itemsD.eq_1, itemsD.eq_2, itemsD.eq_3, rng1D.eq_1, rng2D.eq_1, small62, Int.toNat_natCast, turnF, turnL, cast0, cast1, cast2, cast3, cast4, decide_true, decide_false,  freeze, app_len, rep_len,  inD.eq_1, inD.eq_2, inD.eq_3, tyD, MP.isNon, optCons, grd_T, slots_cons, slots_nil, immut, immuts, Option.map_some, Option.map_none, Option.getD_some, Option.getD_none, Option.bind_some, List.getElem?_cons_zero, List.getElem?_cons_succ, List.set_cons_zero, List.set_cons_succ, List.map_cons, List.map_nil, List.any_cons, List.any_nil, List.length_cons, List.length_nil, Nat.reduceAdd, Nat.reduceSub, List.replicate_succ, List.replicate_zero, List.cons_append, List.nil_append, Bool.or_false, Bool.false_and, Bool.and_false, Bool.false_eq_true, if_false, if_true, reduceIte, Bool.not_true, Bool.not_false, ne_eq, not_false_eq_true, and_true, true_and, and_self, Int.reduceEq, Int.reduceNe, not_true_eq_false, Int.reduceToNat, Int.reducePow, Int.reduceMul, Int.reduceAdd, Int.reduceSub, Int.reduceNeg, Nat.reduceLT, okD_int, okD_non, okD_bl, eqD_int, cmp_eqI, cmp_neI, at_0, at_1, at_2, at_3, at_4, cut_1, k_is_is, k_is_nought, k_is_input, k_is_power, k_is_less, k_is_plus, k_is_minus, k_is_times, k_is_over, ki_is, k_nought_is, k_nought_nought, k_nought_input, k_nought_power, k_nought_less, k_nought_plus, k_nought_minus, k_nought_times, k_nought_over, ki_nought, k_input_is, k_input_nought, k_input_input, k_input_power, k_input_less, k_input_plus, k_input_minus, k_input_times, k_input_over, ki_input, k_power_is, k_power_nought, k_power_input, k_power_power, k_power_less, k_power_plus, k_power_minus, k_power_times, k_power_over, ki_power, k_less_is, k_less_nought, k_less_input, k_less_power, k_less_less, k_less_plus, k_less_minus, k_less_times, k_less_over, ki_less, ko_is, ko_nought, ko_input, ko_power, ko_less, ko_plus, ko_minus, ko_times, ko_over, ki_o, ep, Rk.d, Rk.parts, evItems, turnL, mapM_int0, List.sum_nil, Rk.nn, grd_pos]
  | .pw a n, k + 1, h => by
    show runD 2 (ir_noughts (m_noughts k)) _ = _
    have ep := parts_eq (.pw a n)
    simp only [Rk.d, Rk.parts, List.map_cons, List.map_nil] at ep
    simp only [Rk.ht] at h
    have e1 := noughts_eq a k (by omega)
    unfold ir_noughts
    simp (disch := first | omega | (apply cmx <;> omega) | (apply dvok <;> omega) | decide | fail) only [runD, s_cons, s_nil, s_frz, s_fgt, seq_next, seq_ret, seq_err, s_ifs, if_t, if_f, s_fors, s_whl, s_asg, s_nm_fz, s_nm_fr, s_tp, s_ret, s_rse, s_put, s_app, s_ext, s_par, e_and, e_or, and_t, and_f, or_t, or_f, test_bl, e_lc, ev.eq_1, ev.eq_2, ev.eq_3, ev.eq_4, ev.eq_5, ev.eq_6, ev.eq_7, ev.eq_8, ev.eq_9, ev.eq_12, ev.eq_13, ev.eq_14, ev.eq_15, ev.eq_16, ev.eq_17, ev.eq_18, ev.eq_19, ev.eq_20, ev.eq_21, ev.eq_22, ev.eq_23, evs, evo, evIt, MP.R.bind_ok, MP.R.bind_err, notBo_fz, notBo_fr, retK_fz, retK_fr, retK_bo, noErr_ok, binD.eq_1, binD.eq_2, binD.eq_3, binD.eq_4, binD.eq_5, binD.eq_6, binD.eq_7, binD.eq_8, binD.eq_9, binD.eq_10, binD.eq_11, cmpD.eq_3, cmpD.eq_4, cmpD.eq_5, cmpD.eq_6, cmpD.eq_7, cmpD.eq_8, cmpD.eq_9, cmpD.eq_10, cmpD.eq_11, cmpD.eq_12, cmpD.eq_13, ixD.eq_1, ixD.eq_2, ixD.eq_3, ixD.eq_4, ixD.eq_5, biD.eq_1, biD.eq_2, biD.eq_3, biD.eq_4, biD.eq_5, biD.eq_6, biD.eq_7, biD.eq_8, biD.eq_9, biD.eq_10, biD.eq_11, biD.eq_12, biD.eq_13, biD.eq_14, biD.eq_15, biD.eq_16, biD.eq_17, biD.eq_18, biD.eq_19, biD.eq_20, biD.eq_21, biD.eq_22, biD.eq_23, slD.eq_1, slD.eq_2, slD.eq_3, negD.eq_1, isi_int_int, isi_int_bool, isi_str_str, isi_tup_tup, notBos, asInt, asStr, asDic, rOpt, optOk, callD, isBo, bindTg, bindSlots, wipeD, ownL, ownK, ownAt, appD, extD.eq_1, putD.eq_1, putD.eq_2, setOwn, freeze, itemsD.eq_1, itemsD.eq_2, itemsD.eq_3, rng1D.eq_1, rng2D.eq_1, small62, Int.toNat_natCast, turnF, turnL, cast0, cast1, cast2, cast3, cast4, decide_true, decide_false,  freeze, app_len, rep_len,  inD.eq_1, inD.eq_2, inD.eq_3, tyD, MP.isNon, optCons, grd_T, slots_cons, slots_nil, immut, immuts, Option.map_some, Option.map_none, Option.getD_some, Option.getD_none, Option.bind_some, List.getElem?_cons_zero, List.getElem?_cons_succ, List.set_cons_zero, List.set_cons_succ, List.map_cons, List.map_nil, List.any_cons, List.any_nil, List.length_cons, List.length_nil, Nat.reduceAdd, Nat.reduceSub, List.replicate_succ, List.replicate_zero, List.cons_append, List.nil_append, Bool.or_false, Bool.false_and, Bool.and_false, Bool.false_eq_true, if_false, if_true, reduceIte, Bool.not_true, Bool.not_false, ne_eq, not_false_eq_true, and_true, true_and, and_self, Int.reduceEq, Int.reduceNe, not_true_eq_false, Int.reduceToNat, Int.reducePow, Int.reduceMul, Int.reduceAdd, Int.reduceSub, Int.reduceNeg, Nat.reduceLT, okD_int, okD_non, okD_bl, eqD_int, cmp_eqI, cmp_neI, at_0, at_1, at_2, at_3, at_4, cut_1, k_is_is, k_is_nought, k_is_input, k_is_power, k_is_less, k_is_plus, k_is_minus, k_is_times, k_is_over, ki_is, k_nought_is, k_nought_nought, k_nought_input, k_nought_power, k_nought_less, k_nought_plus, k_nought_minus, k_nought_times, k_nought_over, ki_nought, k_input_is, k_input_nought, k_input_input, k_input_power, k_input_less, k_input_plus, k_input_minus, k_input_times, k_input_over, ki_input, k_power_is, k_power_nought, k_power_input, k_power_power, k_power_less, k_power_plus, k_power_minus, k_power_times, k_power_over, ki_power, k_less_is, k_less_nought, k_less_input, k_less_power, k_less_less, k_less_plus, k_less_minus, k_less_times, k_less_over, ki_less, ko_is, ko_nought, ko_input, ko_power, ko_less, ko_plus, ko_minus, ko_times, ko_over, ki_o, ep, Rk.d, Rk.parts, evItems, turnL, e1, mapM_int1, List.sum_cons, List.sum_nil, Rk.nn, Int.add_zero, grd_pos]
  | .bin o a b, k + 1, h => by
    show runD 2 (ir_noughts (m_noughts k)) _ = _
    have ep := parts_eq (.bin o a b)
    simp only [Rk.d, Rk.parts, List.map_cons, List.map_nil] at ep
    simp only [Rk.ht] at h
    have e1 := noughts_eq a k (by omega)
    have e2 := noughts_eq b k (by omega)
    unfold ir_noughts
    simp (disch := first | omega | (apply cmx <;> omega) | (apply dvok <;> omega) | decide | fail) only [runD, s_cons, s_nil, s_frz, s_fgt, seq_next, seq_ret, seq_err, s_ifs, if_t, if_f, s_fors, s_whl, s_asg, s_nm_fz, s_nm_fr, s_tp, s_ret, s_rse, s_put, s_app, s_ext, s_par, e_and, e_or, and_t, and_f, or_t, or_f, test_bl, e_lc, ev.eq_1, ev.eq_2, ev.eq_3, ev.eq_4, ev.eq_5, ev.eq_6, ev.eq_7, ev.eq_8, ev.eq_9, ev.eq_12, ev.eq_13, ev.eq_14, ev.eq_15, ev.eq_16, ev.eq_17, ev.eq_18, ev.eq_19, ev.eq_20, ev.eq_21, ev.eq_22, ev.eq_23, evs, evo, evIt, MP.R.bind_ok, MP.R.bind_err, notBo_fz, notBo_fr, retK_fz, retK_fr, retK_bo, noErr_ok, binD.eq_1, binD.eq_2, binD.eq_3, binD.eq_4, binD.eq_5, binD.eq_6, binD.eq_7, binD.eq_8, binD.eq_9, binD.eq_10, binD.eq_11, cmpD.eq_3, cmpD.eq_4, cmpD.eq_5, cmpD.eq_6, cmpD.eq_7, cmpD.eq_8, cmpD.eq_9, cmpD.eq_10, cmpD.eq_11, cmpD.eq_12, cmpD.eq_13, ixD.eq_1, ixD.eq_2, ixD.eq_3, ixD.eq_4, ixD.eq_5, biD.eq_1, biD.eq_2, biD.eq_3, biD.eq_4, biD.eq_5, biD.eq_6, biD.eq_7, biD.eq_8, biD.eq_9, biD.eq_10, biD.eq_11, biD.eq_12, biD.eq_13, biD.eq_14, biD.eq_15, biD.eq_16, biD.eq_17, biD.eq_18, biD.eq_19, biD.eq_20, biD.eq_21, biD.eq_22, biD.eq_23, slD.eq_1, slD.eq_2, slD.eq_3, negD.eq_1, isi_int_int, isi_int_bool, isi_str_str, isi_tup_tup, notBos, asInt, asStr, asDic, rOpt, optOk, callD, isBo, bindTg, bindSlots, wipeD, ownL, ownK, ownAt, appD, extD.eq_1, putD.eq_1, putD.eq_2, setOwn, freeze, itemsD.eq_1, itemsD.eq_2, itemsD.eq_3, rng1D.eq_1, rng2D.eq_1, small62, Int.toNat_natCast, turnF, turnL, cast0, cast1, cast2, cast3, cast4, decide_true, decide_false,  freeze, app_len, rep_len,  inD.eq_1, inD.eq_2, inD.eq_3, tyD, MP.isNon, optCons, grd_T, slots_cons, slots_nil, immut, immuts, Option.map_some, Option.map_none, Option.getD_some, Option.getD_none, Option.bind_some, List.getElem?_cons_zero, List.getElem?_cons_succ, List.set_cons_zero, List.set_cons_succ, List.map_cons, List.map_nil, List.any_cons, List.any_nil, List.length_cons, List.length_nil, Nat.reduceAdd, Nat.reduceSub, List.replicate_succ, List.replicate_zero, List.cons_append, List.nil_append, Bool.or_false, Bool.false_and, Bool.and_false, Bool.false_eq_true, if_false, if_true, reduceIte, Bool.not_true, Bool.not_false, ne_eq, not_false_eq_true, and_true, true_and, and_self, Int.reduceEq, Int.reduceNe, not_true_eq_false, Int.reduceToNat, Int.reducePow, Int.reduceMul, Int.reduceAdd, Int.reduceSub, Int.reduceNeg, Nat.reduceLT, okD_int, okD_non, okD_bl, eqD_int, cmp_eqI, cmp_neI, at_0, at_1, at_2, at_3, at_4, cut_1, k_is_is, k_is_nought, k_is_input, k_is_power, k_is_less, k_is_plus, k_is_minus, k_is_times, k_is_over, ki_is, k_nought_is, k_nought_nought, k_nought_input, k_nought_power, k_nought_less, k_nought_plus, k_nought_minus, k_nought_times, k_nought_over, ki_nought, k_input_is, k_input_nought, k_input_input, k_input_power, k_input_less, k_input_plus, k_input_minus, k_input_times, k_input_over, ki_input, k_power_is, k_power_nought, k_power_input, k_power_power, k_power_less, k_power_plus, k_power_minus, k_power_times, k_power_over, ki_power, k_less_is, k_less_nought, k_less_input, k_less_power, k_less_less, k_less_plus, k_less_minus, k_less_times, k_less_over, ki_less, ko_is, ko_nought, ko_input, ko_power, ko_less, ko_plus, ko_minus, ko_times, ko_over, ki_o, ep, Rk.d, Rk.parts, evItems, turnL, e1, e2, mapM_int2, List.sum_cons, List.sum_nil, Rk.nn, grd_pos]
    congr 2
  | .less a b c e, k + 1, h => by
    show runD 2 (ir_noughts (m_noughts k)) _ = _
    have ep := parts_eq (.less a b c e)
    simp only [Rk.d, Rk.parts, List.map_cons, List.map_nil] at ep
    simp only [Rk.ht] at h
    have e1 := noughts_eq a k (by omega)
    have e2 := noughts_eq b k (by omega)
    have e3 := noughts_eq c k (by omega)
    have e4 := noughts_eq e k (by omega)
    unfold ir_noughts
    simp (disch := first | omega | (apply cmx <;> omega) | (apply dvok <;> omega) | decide | fail) only [runD, s_cons, s_nil, s_frz, s_fgt, seq_next, seq_ret, seq_err, s_ifs, if_t, if_f, s_fors, s_whl, s_asg, s_nm_fz, s_nm_fr, s_tp, s_ret, s_rse, s_put, s_app, s_ext, s_par, e_and, e_or, and_t, and_f, or_t, or_f, test_bl, e_lc, ev.eq_1, ev.eq_2, ev.eq_3, ev.eq_4, ev.eq_5, ev.eq_6, ev.eq_7, ev.eq_8, ev.eq_9, ev.eq_12, ev.eq_13, ev.eq_14, ev.eq_15, ev.eq_16, ev.eq_17, ev.eq_18, ev.eq_19, ev.eq_20, ev.eq_21, ev.eq_22, ev.eq_23, evs, evo, evIt, MP.R.bind_ok, MP.R.bind_err, notBo_fz, notBo_fr, retK_fz, retK_fr, retK_bo, noErr_ok, binD.eq_1, binD.eq_2, binD.eq_3, binD.eq_4, binD.eq_5, binD.eq_6, binD.eq_7, binD.eq_8, binD.eq_9, binD.eq_10, binD.eq_11, cmpD.eq_3, cmpD.eq_4, cmpD.eq_5, cmpD.eq_6, cmpD.eq_7, cmpD.eq_8, cmpD.eq_9, cmpD.eq_10, cmpD.eq_11, cmpD.eq_12, cmpD.eq_13, ixD.eq_1, ixD.eq_2, ixD.eq_3, ixD.eq_4, ixD.eq_5, biD.eq_1, biD.eq_2, biD.eq_3, biD.eq_4, biD.eq_5, biD.eq_6, biD.eq_7, biD.eq_8, biD.eq_9, biD.eq_10, biD.eq_11, biD.eq_12, biD.eq_13, biD.eq_14, biD.eq_15, biD.eq_16, biD.eq_17, biD.eq_18, biD.eq_19, biD.eq_20, biD.eq_21, biD.eq_22, biD.eq_23, slD.eq_1, slD.eq_2, slD.eq_3, negD.eq_1, isi_int_int, isi_int_bool, isi_str_str, isi_tup_tup, notBos, asInt, asStr, asDic, rOpt, optOk, callD, isBo, bindTg, bindSlots, wipeD, ownL, ownK, ownAt, appD, extD.eq_1, putD.eq_1, putD.eq_2, setOwn, freeze, itemsD.eq_1, itemsD.eq_2, itemsD.eq_3, rng1D.eq_1, rng2D.eq_1, small62, Int.toNat_natCast, turnF, turnL, cast0, cast1, cast2, cast3, cast4, decide_true, decide_false,  freeze, app_len, rep_len,  inD.eq_1, inD.eq_2, inD.eq_3, tyD, MP.isNon, optCons, grd_T, slots_cons, slots_nil, immut, immuts, Option.map_some, Option.map_none, Option.getD_some, Option.getD_none, Option.bind_some, List.getElem?_cons_zero, List.getElem?_cons_succ, List.set_cons_zero, List.set_cons_succ, List.map_cons, List.map_nil, List.any_cons, List.any_nil, List.length_cons, List.length_nil, Nat.reduceAdd, Nat.reduceSub, List.replicate_succ, List.replicate_zero, List.cons_append, List.nil_append, Bool.or_false, Bool.false_and, Bool.and_false, Bool.false_eq_true, if_false, if_true, reduceIte, Bool.not_true, Bool.not_false, ne_eq, not_false_eq_true, and_true, true_and, and_self, Int.reduceEq, Int.reduceNe, not_true_eq_false, Int.reduceToNat, Int.reducePow, Int.reduceMul, Int.reduceAdd, Int.reduceSub, Int.reduceNeg, Nat.reduceLT, okD_int, okD_non, okD_bl, eqD_int, cmp_eqI, cmp_neI, at_0, at_1, at_2, at_3, at_4, cut_1, k_is_is, k_is_nought, k_is_input, k_is_power, k_is_less, k_is_plus, k_is_minus, k_is_times, k_is_over, ki_is, k_nought_is, k_nought_nought, k_nought_input, k_nought_power, k_nought_less, k_nought_plus, k_nought_minus, k_nought_times, k_nought_over, ki_nought, k_input_is, k_input_nought, k_input_input, k_input_power, k_input_less, k_input_plus, k_input_minus, k_input_times, k_input_over, ki_input, k_power_is, k_power_nought, k_power_input, k_power_power, k_power_less, k_power_plus, k_power_minus, k_power_times, k_power_over, ki_power, k_less_is, k_less_nought, k_less_input, k_less_power, k_less_less, k_less_plus, k_less_minus, k_less_times, k_less_over, ki_less, ko_is, ko_nought, ko_input, ko_power, ko_less, ko_plus, ko_minus, ko_times, ko_over, ki_o, ep, Rk.d, Rk.parts, evItems, turnL, e1, e2, e3, e4, mapM_int4, List.sum_cons, List.sum_nil, Rk.nn, grd_pos]
    congr 2
    congr 1
    omega
theorem lparts_eq (r : Rk) : m__law_parts [r.d] = .ok (.lst (r.parts.map Rk.d), .fr) := by
  unfold m__law_parts ir__law_parts
  cases r <;> simp (disch := first | omega | (apply cmx <;> omega) | (apply dvok <;> omega) | decide | fail) only [runD, s_cons, s_nil, s_frz, s_fgt, seq_next, seq_ret, seq_err, s_ifs, if_t, if_f, s_fors, s_whl, s_asg, s_nm_fz, s_nm_fr, s_tp, s_ret, s_rse, s_put, s_app, s_ext, s_par, e_and, e_or, and_t, and_f, or_t, or_f, test_bl, e_lc, ev.eq_1, ev.eq_2, ev.eq_3, ev.eq_4, ev.eq_5, ev.eq_6, ev.eq_7, ev.eq_8, ev.eq_9, ev.eq_12, ev.eq_13, ev.eq_14, ev.eq_15, ev.eq_16, ev.eq_17, ev.eq_18, ev.eq_19, ev.eq_20, ev.eq_21, ev.eq_22, ev.eq_23, evs, evo, evIt, MP.R.bind_ok, MP.R.bind_err, notBo_fz, notBo_fr, retK_fz, retK_fr, retK_bo, noErr_ok, binD.eq_1, binD.eq_2, binD.eq_3, binD.eq_4, binD.eq_5, binD.eq_6, binD.eq_7, binD.eq_8, binD.eq_9, binD.eq_10, binD.eq_11, cmpD.eq_3, cmpD.eq_4, cmpD.eq_5, cmpD.eq_6, cmpD.eq_7, cmpD.eq_8, cmpD.eq_9, cmpD.eq_10, cmpD.eq_11, cmpD.eq_12, cmpD.eq_13, ixD.eq_1, ixD.eq_2, ixD.eq_3, ixD.eq_4, ixD.eq_5, biD.eq_1, biD.eq_2, biD.eq_3, biD.eq_4, biD.eq_5, biD.eq_6, biD.eq_7, biD.eq_8, biD.eq_9, biD.eq_10, biD.eq_11, biD.eq_12, biD.eq_13, biD.eq_14, biD.eq_15, biD.eq_16, biD.eq_17, biD.eq_18, biD.eq_19, biD.eq_20, biD.eq_21, biD.eq_22, biD.eq_23, slD.eq_1, slD.eq_2, slD.eq_3, negD.eq_1, isi_int_int, isi_int_bool, isi_str_str, isi_tup_tup, notBos, asInt, asStr, asDic, rOpt, optOk, callD, isBo, bindTg, bindSlots, wipeD, ownL, ownK, ownAt, appD, extD.eq_1, putD.eq_1, putD.eq_2, setOwn, freeze, itemsD.eq_1, itemsD.eq_2, itemsD.eq_3, rng1D.eq_1, rng2D.eq_1, small62, Int.toNat_natCast, turnF, turnL, cast0, cast1, cast2, cast3, cast4, decide_true, decide_false,  freeze, app_len, rep_len,  inD.eq_1, inD.eq_2, inD.eq_3, tyD, MP.isNon, optCons, grd_T, slots_cons, slots_nil, immut, immuts, Option.map_some, Option.map_none, Option.getD_some, Option.getD_none, Option.bind_some, List.getElem?_cons_zero, List.getElem?_cons_succ, List.set_cons_zero, List.set_cons_succ, List.map_cons, List.map_nil, List.any_cons, List.any_nil, List.length_cons, List.length_nil, Nat.reduceAdd, Nat.reduceSub, List.replicate_succ, List.replicate_zero, List.cons_append, List.nil_append, Bool.or_false, Bool.false_and, Bool.and_false, Bool.false_eq_true, if_false, if_true, reduceIte, Bool.not_true, Bool.not_false, ne_eq, not_false_eq_true, and_true, true_and, and_self, Int.reduceEq, Int.reduceNe, not_true_eq_false, Int.reduceToNat, Int.reducePow, Int.reduceMul, Int.reduceAdd, Int.reduceSub, Int.reduceNeg, Nat.reduceLT, okD_int, okD_non, okD_bl, eqD_int, cmp_eqI, cmp_neI, at_0, at_1, at_2, at_3, at_4, cut_1, k_is_is, k_is_nought, k_is_input, k_is_power, k_is_less, k_is_plus, k_is_minus, k_is_times, k_is_over, ki_is, k_nought_is, k_nought_nought, k_nought_input, k_nought_power, k_nought_less, k_nought_plus, k_nought_minus, k_nought_times, k_nought_over, ki_nought, k_input_is, k_input_nought, k_input_input, k_input_power, k_input_less, k_input_plus, k_input_minus, k_input_times, k_input_over, ki_input, k_power_is, k_power_nought, k_power_input, k_power_power, k_power_less, k_power_plus, k_power_minus, k_power_times, k_power_over, ki_power, k_less_is, k_less_nought, k_less_input, k_less_power, k_less_less, k_less_plus, k_less_minus, k_less_times, k_less_over, ki_less, ko_is, ko_nought, ko_input, ko_power, ko_less, ko_plus, ko_minus, ko_times, ko_over, ki_o, Rk.d, Rk.parts, grd_pos]
theorem lnoughts_eq : ∀ (r : Rk) (k : Nat), r.ht < k → m__law_noughts k [r.d] = .ok (.int r.nn, .fz)
  | r, 0, h => absurd h (Nat.not_lt_zero _)
  | .is p m, k + 1, h => by
    show runD 2 (ir__law_noughts (m__law_noughts k)) _ = _
    have ep := lparts_eq (.is p m)
    simp only [Rk.d, Rk.parts, List.map_cons, List.map_nil] at ep
    unfold ir__law_noughts
    simp (disch := first | omega | (apply cmx <;> omega) | (apply dvok <;> omega) | decide | fail) only [runD, s_cons, s_nil, s_frz, s_fgt, seq_next, seq_ret, seq_err, s_ifs, if_t, if_f, s_fors, s_whl, s_asg, s_nm_fz, s_nm_fr, s_tp, s_ret, s_rse, s_put, s_app, s_ext, s_par, e_and, e_or, and_t, and_f, or_t, or_f, test_bl, e_lc, ev.eq_1, ev.eq_2, ev.eq_3, ev.eq_4, ev.eq_5, ev.eq_6, ev.eq_7, ev.eq_8, ev.eq_9, ev.eq_12, ev.eq_13, ev.eq_14, ev.eq_15, ev.eq_16, ev.eq_17, ev.eq_18, ev.eq_19, ev.eq_20, ev.eq_21, ev.eq_22, ev.eq_23, evs, evo, evIt, MP.R.bind_ok, MP.R.bind_err, notBo_fz, notBo_fr, retK_fz, retK_fr, retK_bo, noErr_ok, binD.eq_1, binD.eq_2, binD.eq_3, binD.eq_4, binD.eq_5, binD.eq_6, binD.eq_7, binD.eq_8, binD.eq_9, binD.eq_10, binD.eq_11, cmpD.eq_3, cmpD.eq_4, cmpD.eq_5, cmpD.eq_6, cmpD.eq_7, cmpD.eq_8, cmpD.eq_9, cmpD.eq_10, cmpD.eq_11, cmpD.eq_12, cmpD.eq_13, ixD.eq_1, ixD.eq_2, ixD.eq_3, ixD.eq_4, ixD.eq_5, biD.eq_1, biD.eq_2, biD.eq_3, biD.eq_4, biD.eq_5, biD.eq_6, biD.eq_7, biD.eq_8, biD.eq_9, biD.eq_10, biD.eq_11, biD.eq_12, biD.eq_13, biD.eq_14, biD.eq_15, biD.eq_16, biD.eq_17, biD.eq_18, biD.eq_19, biD.eq_20, biD.eq_21, biD.eq_22, biD.eq_23, slD.eq_1, slD.eq_2, slD.eq_3, negD.eq_1, isi_int_int, isi_int_bool, isi_str_str, isi_tup_tup, notBos, asInt, asStr, asDic, rOpt, optOk, callD, isBo, bindTg, bindSlots, wipeD, ownL, ownK, ownAt, appD, extD.eq_1, putD.eq_1, putD.eq_2, setOwn, freeze, itemsD.eq_1, itemsD.eq_2, itemsD.eq_3, rng1D.eq_1, rng2D.eq_1, small62, Int.toNat_natCast, turnF, turnL, cast0, cast1, cast2, cast3, cast4, decide_true, decide_false,  freeze, app_len, rep_len,  inD.eq_1, inD.eq_2, inD.eq_3, tyD, MP.isNon, optCons, grd_T, slots_cons, slots_nil, immut, immuts, Option.map_some, Option.map_none, Option.getD_some, Option.getD_none, Option.bind_some, List.getElem?_cons_zero, List.getElem?_cons_succ, List.set_cons_zero, List.set_cons_succ, List.map_cons, List.map_nil, List.any_cons, List.any_nil, List.length_cons, List.length_nil, Nat.reduceAdd, Nat.reduceSub, List.replicate_succ, List.replicate_zero, List.cons_append, List.nil_append, Bool.or_false, Bool.false_and, Bool.and_false, Bool.false_eq_true, if_false, if_true, reduceIte, Bool.not_true, Bool.not_false, ne_eq, not_false_eq_true, and_true, true_and, and_self, Int.reduceEq, Int.reduceNe, not_true_eq_false, Int.reduceToNat, Int.reducePow, Int.reduceMul, Int.reduceAdd, Int.reduceSub, Int.reduceNeg, Nat.reduceLT, okD_int, okD_non, okD_bl, eqD_int, cmp_eqI, cmp_neI, at_0, at_1, at_2, at_3, at_4, cut_1, k_is_is, k_is_nought, k_is_input, k_is_power, k_is_less, k_is_plus, k_is_minus, k_is_times, k_is_over, ki_is, k_nought_is, k_nought_nought, k_nought_input, k_nought_power, k_nought_less, k_nought_plus, k_nought_minus, k_nought_times, k_nought_over, ki_nought, k_input_is, k_input_nought, k_input_input, k_input_power, k_input_less, k_input_plus, k_input_minus, k_input_times, k_input_over, ki_input, k_power_is, k_power_nought, k_power_input, k_power_power, k_power_less, k_power_plus, k_power_minus, k_power_times, k_power_over, ki_power, k_less_is, k_less_nought, k_less_input, k_less_power, k_less_less, k_less_plus, k_less_minus, k_less_times, k_less_over, ki_less, ko_is, ko_nought, ko_input, ko_power, ko_less, ko_plus, ko_minus, ko_times, ko_over, ki_o, ep, Rk.d, Rk.parts, evItems, turnL, mapM_int0, List.sum_nil, Rk.nn, grd_pos]
  | .nought, k + 1, h => by
    show runD 2 (ir__law_noughts (m__law_noughts k)) _ = _
    unfold ir__law_noughts
    simp (disch := first | omega | (apply cmx <;> omega) | (apply dvok <;> omega) | decide | fail) only [runD, s_cons, s_nil, s_frz, s_fgt, seq_next, seq_ret, seq_err, s_ifs, if_t, if_f, s_fors, s_whl, s_asg, s_nm_fz, s_nm_fr, s_tp, s_ret, s_rse, s_put, s_app, s_ext, s_par, e_and, e_or, and_t, and_f, or_t, or_f, test_bl, e_lc, ev.eq_1, ev.eq_2, ev.eq_3, ev.eq_4, ev.eq_5, ev.eq_6, ev.eq_7, ev.eq_8, ev.eq_9, ev.eq_12, ev.eq_13, ev.eq_14, ev.eq_15, ev.eq_16, ev.eq_17, ev.eq_18, ev.eq_19, ev.eq_20, ev.eq_21, ev.eq_22, ev.eq_23, evs, evo, evIt, MP.R.bind_ok, MP.R.bind_err, notBo_fz, notBo_fr, retK_fz, retK_fr, retK_bo, noErr_ok, binD.eq_1, binD.eq_2, binD.eq_3, binD.eq_4, binD.eq_5, binD.eq_6, binD.eq_7, binD.eq_8, binD.eq_9, binD.eq_10, binD.eq_11, cmpD.eq_3, cmpD.eq_4, cmpD.eq_5, cmpD.eq_6, cmpD.eq_7, cmpD.eq_8, cmpD.eq_9, cmpD.eq_10, cmpD.eq_11, cmpD.eq_12, cmpD.eq_13, ixD.eq_1, ixD.eq_2, ixD.eq_3, ixD.eq_4, ixD.eq_5, biD.eq_1, biD.eq_2, biD.eq_3, biD.eq_4, biD.eq_5, biD.eq_6, biD.eq_7, biD.eq_8, biD.eq_9, biD.eq_10, biD.eq_11, biD.eq_12, biD.eq_13, biD.eq_14, biD.eq_15, biD.eq_16, biD.eq_17, biD.eq_18, biD.eq_19, biD.eq_20, biD.eq_21, biD.eq_22, biD.eq_23, slD.eq_1, slD.eq_2, slD.eq_3, negD.eq_1, isi_int_int, isi_int_bool, isi_str_str, isi_tup_tup, notBos, asInt, asStr, asDic, rOpt, optOk, callD, isBo, bindTg, bindSlots, wipeD, ownL, ownK, ownAt, appD, extD.eq_1, putD.eq_1, putD.eq_2, setOwn, freeze, itemsD.eq_1, itemsD.eq_2, itemsD.eq_3, rng1D.eq_1, rng2D.eq_1, small62, Int.toNat_natCast, turnF, turnL, cast0, cast1, cast2, cast3, cast4, decide_true, decide_false,  freeze, app_len, rep_len,  inD.eq_1, inD.eq_2, inD.eq_3, tyD, MP.isNon, optCons, grd_T, slots_cons, slots_nil, immut, immuts, Option.map_some, Option.map_none, Option.getD_some, Option.getD_none, Option.bind_some, List.getElem?_cons_zero, List.getElem?_cons_succ, List.set_cons_zero, List.set_cons_succ, List.map_cons, List.map_nil, List.any_cons, List.any_nil, List.length_cons, List.length_nil, Nat.reduceAdd, Nat.reduceSub, List.replicate_succ, List.replicate_zero, List.cons_append, List.nil_append, Bool.or_false, Bool.false_and, Bool.and_false, Bool.false_eq_true, if_false, if_true, reduceIte, Bool.not_true, Bool.not_false, ne_eq, not_false_eq_true, and_true, true_and, and_self, Int.reduceEq, Int.reduceNe, not_true_eq_false, Int.reduceToNat, Int.reducePow, Int.reduceMul, Int.reduceAdd, Int.reduceSub, Int.reduceNeg, Nat.reduceLT, okD_int, okD_non, okD_bl, eqD_int, cmp_eqI, cmp_neI, at_0, at_1, at_2, at_3, at_4, cut_1, k_is_is, k_is_nought, k_is_input, k_is_power, k_is_less, k_is_plus, k_is_minus, k_is_times, k_is_over, ki_is, k_nought_is, k_nought_nought, k_nought_input, k_nought_power, k_nought_less, k_nought_plus, k_nought_minus, k_nought_times, k_nought_over, ki_nought, k_input_is, k_input_nought, k_input_input, k_input_power, k_input_less, k_input_plus, k_input_minus, k_input_times, k_input_over, ki_input, k_power_is, k_power_nought, k_power_input, k_power_power, k_power_less, k_power_plus, k_power_minus, k_power_times, k_power_over, ki_power, k_less_is, k_less_nought, k_less_input, k_less_power, k_less_less, k_less_plus, k_less_minus, k_less_times, k_less_over, ki_less, ko_is, ko_nought, ko_input, ko_power, ko_less, ko_plus, ko_minus, ko_times, ko_over, ki_o, Rk.d, Rk.nn, grd_pos]
  | .input s, k + 1, h => by
    show runD 2 (ir__law_noughts (m__law_noughts k)) _ = _
    have ep := lparts_eq (.input s)
    simp only [Rk.d, Rk.parts, List.map_cons, List.map_nil] at ep
    unfold ir__law_noughts
    simp (disch := first | omega | (apply cmx <;> omega) | (apply dvok <;> omega) | decide | fail) only [runD, s_cons, s_nil, s_frz, s_fgt, seq_next, seq_ret, seq_err, s_ifs, if_t, if_f, s_fors, s_whl, s_asg, s_nm_fz, s_nm_fr, s_tp, s_ret, s_rse, s_put, s_app, s_ext, s_par, e_and, e_or, and_t, and_f, or_t, or_f, test_bl, e_lc, ev.eq_1, ev.eq_2, ev.eq_3, ev.eq_4, ev.eq_5, ev.eq_6, ev.eq_7, ev.eq_8, ev.eq_9, ev.eq_12, ev.eq_13, ev.eq_14, ev.eq_15, ev.eq_16, ev.eq_17, ev.eq_18, ev.eq_19, ev.eq_20, ev.eq_21, ev.eq_22, ev.eq_23, evs, evo, evIt, MP.R.bind_ok, MP.R.bind_err, notBo_fz, notBo_fr, retK_fz, retK_fr, retK_bo, noErr_ok, binD.eq_1, binD.eq_2, binD.eq_3, binD.eq_4, binD.eq_5, binD.eq_6, binD.eq_7, binD.eq_8, binD.eq_9, binD.eq_10, binD.eq_11, cmpD.eq_3, cmpD.eq_4, cmpD.eq_5, cmpD.eq_6, cmpD.eq_7, cmpD.eq_8, cmpD.eq_9, cmpD.eq_10, cmpD.eq_11, cmpD.eq_12, cmpD.eq_13, ixD.eq_1, ixD.eq_2, ixD.eq_3, ixD.eq_4, ixD.eq_5, biD.eq_1, biD.eq_2, biD.eq_3, biD.eq_4, biD.eq_5, biD.eq_6, biD.eq_7, biD.eq_8, biD.eq_9, biD.eq_10, biD.eq_11, biD.eq_12, biD.eq_13, biD.eq_14, biD.eq_15, biD.eq_16, biD.eq_17, biD.eq_18, biD.eq_19, biD.eq_20, biD.eq_21, biD.eq_22, biD.eq_23, slD.eq_1, slD.eq_2, slD.eq_3, negD.eq_1, isi_int_int, isi_int_bool, isi_str_str, isi_tup_tup, notBos, asInt, asStr, asDic, rOpt, optOk, callD, isBo, bindTg, bindSlots, wipeD, ownL, ownK, ownAt, appD, extD.eq_1, putD.eq_1, putD.eq_2, setOwn, freeze, itemsD.eq_1, itemsD.eq_2, itemsD.eq_3, rng1D.eq_1, rng2D.eq_1, small62, Int.toNat_natCast, turnF, turnL, cast0, cast1, cast2, cast3, cast4, decide_true, decide_false,  freeze, app_len, rep_len,  inD.eq_1, inD.eq_2, inD.eq_3, tyD, MP.isNon, optCons, grd_T, slots_cons, slots_nil, immut, immuts, Option.map_some, Option.map_none, Option.getD_some, Option.getD_none, Option.bind_some, List.getElem?_cons_zero, List.getElem?_cons_succ, List.set_cons_zero, List.set_cons_succ, List.map_cons, List.map_nil, List.any_cons, List.any_nil, List.length_cons, List.length_nil, Nat.reduceAdd, Nat.reduceSub, List.replicate_succ, List.replicate_zero, List.cons_append, List.nil_append, Bool.or_false, Bool.false_and, Bool.and_false, Bool.false_eq_true, if_false, if_true, reduceIte, Bool.not_true, Bool.not_false, ne_eq, not_false_eq_true, and_true, true_and, and_self, Int.reduceEq, Int.reduceNe, not_true_eq_false, Int.reduceToNat, Int.reducePow, Int.reduceMul, Int.reduceAdd, Int.reduceSub, Int.reduceNeg, Nat.reduceLT, okD_int, okD_non, okD_bl, eqD_int, cmp_eqI, cmp_neI, at_0, at_1, at_2, at_3, at_4, cut_1, k_is_is, k_is_nought, k_is_input, k_is_power, k_is_less, k_is_plus, k_is_minus, k_is_times, k_is_over, ki_is, k_nought_is, k_nought_nought, k_nought_input, k_nought_power, k_nought_less, k_nought_plus, k_nought_minus, k_nought_times, k_nought_over, ki_nought, k_input_is, k_input_nought, k_input_input, k_input_power, k_input_less, k_input_plus, k_input_minus, k_input_times, k_input_over, ki_input, k_power_is, k_power_nought, k_power_input, k_power_power, k_power_less, k_power_plus, k_power_minus, k_power_times, k_power_over, ki_power, k_less_is, k_less_nought, k_less_input, k_less_power, k_less_less, k_less_plus, k_less_minus, k_less_times, k_less_over, ki_less, ko_is, ko_nought, ko_input, ko_power, ko_less, ko_plus, ko_minus, ko_times, ko_over, ki_o, ep, Rk.d, Rk.parts, evItems, turnL, mapM_int0, List.sum_nil, Rk.nn, grd_pos]
  | .pw a n, k + 1, h => by
    show runD 2 (ir__law_noughts (m__law_noughts k)) _ = _
    have ep := lparts_eq (.pw a n)
    simp only [Rk.d, Rk.parts, List.map_cons, List.map_nil] at ep
    simp only [Rk.ht] at h
    have e1 := lnoughts_eq a k (by omega)
    unfold ir__law_noughts
    simp (disch := first | omega | (apply cmx <;> omega) | (apply dvok <;> omega) | decide | fail) only [runD, s_cons, s_nil, s_frz, s_fgt, seq_next, seq_ret, seq_err, s_ifs, if_t, if_f, s_fors, s_whl, s_asg, s_nm_fz, s_nm_fr, s_tp, s_ret, s_rse, s_put, s_app, s_ext, s_par, e_and, e_or, and_t, and_f, or_t, or_f, test_bl, e_lc, ev.eq_1, ev.eq_2, ev.eq_3, ev.eq_4, ev.eq_5, ev.eq_6, ev.eq_7, ev.eq_8, ev.eq_9, ev.eq_12, ev.eq_13, ev.eq_14, ev.eq_15, ev.eq_16, ev.eq_17, ev.eq_18, ev.eq_19, ev.eq_20, ev.eq_21, ev.eq_22, ev.eq_23, evs, evo, evIt, MP.R.bind_ok, MP.R.bind_err, notBo_fz, notBo_fr, retK_fz, retK_fr, retK_bo, noErr_ok, binD.eq_1, binD.eq_2, binD.eq_3, binD.eq_4, binD.eq_5, binD.eq_6, binD.eq_7, binD.eq_8, binD.eq_9, binD.eq_10, binD.eq_11, cmpD.eq_3, cmpD.eq_4, cmpD.eq_5, cmpD.eq_6, cmpD.eq_7, cmpD.eq_8, cmpD.eq_9, cmpD.eq_10, cmpD.eq_11, cmpD.eq_12, cmpD.eq_13, ixD.eq_1, ixD.eq_2, ixD.eq_3, ixD.eq_4, ixD.eq_5, biD.eq_1, biD.eq_2, biD.eq_3, biD.eq_4, biD.eq_5, biD.eq_6, biD.eq_7, biD.eq_8, biD.eq_9, biD.eq_10, biD.eq_11, biD.eq_12, biD.eq_13, biD.eq_14, biD.eq_15, biD.eq_16, biD.eq_17, biD.eq_18, biD.eq_19, biD.eq_20, biD.eq_21, biD.eq_22, biD.eq_23, slD.eq_1, slD.eq_2, slD.eq_3, negD.eq_1, isi_int_int, isi_int_bool, isi_str_str, isi_tup_tup, notBos, asInt, asStr, asDic, rOpt, optOk, callD, isBo, bindTg, bindSlots, wipeD, ownL, ownK, ownAt, appD, extD.eq_1, putD.eq_1, putD.eq_2, setOwn, freeze, itemsD.eq_1, itemsD.eq_2, itemsD.eq_3, rng1D.eq_1, rng2D.eq_1, small62, Int.toNat_natCast, turnF, turnL, cast0, cast1, cast2, cast3, cast4, decide_true, decide_false,  freeze, app_len, rep_len,  inD.eq_1, inD.eq_2, inD.eq_3, tyD, MP.isNon, optCons, grd_T, slots_cons, slots_nil, immut, immuts, Option.map_some, Option.map_none, Option.getD_some, Option.getD_none, Option.bind_some, List.getElem?_cons_zero, List.getElem?_cons_succ, List.set_cons_zero, List.set_cons_succ, List.map_cons, List.map_nil, List.any_cons, List.any_nil, List.length_cons, List.length_nil, Nat.reduceAdd, Nat.reduceSub, List.replicate_succ, List.replicate_zero, List.cons_append, List.nil_append, Bool.or_false, Bool.false_and, Bool.and_false, Bool.false_eq_true, if_false, if_true, reduceIte, Bool.not_true, Bool.not_false, ne_eq, not_false_eq_true, and_true, true_and, and_self, Int.reduceEq, Int.reduceNe, not_true_eq_false, Int.reduceToNat, Int.reducePow, Int.reduceMul, Int.reduceAdd, Int.reduceSub, Int.reduceNeg, Nat.reduceLT, okD_int, okD_non, okD_bl, eqD_int, cmp_eqI, cmp_neI, at_0, at_1, at_2, at_3, at_4, cut_1, k_is_is, k_is_nought, k_is_input, k_is_power, k_is_less, k_is_plus, k_is_minus, k_is_times, k_is_over, ki_is, k_nought_is, k_nought_nought, k_nought_input, k_nought_power, k_nought_less, k_nought_plus, k_nought_minus, k_nought_times, k_nought_over, ki_nought, k_input_is, k_input_nought, k_input_input, k_input_power, k_input_less, k_input_plus, k_input_minus, k_input_times, k_input_over, ki_input, k_power_is, k_power_nought, k_power_input, k_power_power, k_power_less, k_power_plus, k_power_minus, k_power_times, k_power_over, ki_power, k_less_is, k_less_nought, k_less_input, k_less_power, k_less_less, k_less_plus, k_less_minus, k_less_times, k_less_over, ki_less, ko_is, ko_nought, ko_input, ko_power, ko_less, ko_plus, ko_minus, ko_times, ko_over, ki_o, ep, Rk.d, Rk.parts, evItems, turnL, e1, mapM_int1, List.sum_cons, List.sum_nil, Rk.nn, Int.add_zero, grd_pos]
  | .bin o a b, k + 1, h => by
    show runD 2 (ir__law_noughts (m__law_noughts k)) _ = _
    have ep := lparts_eq (.bin o a b)
    simp only [Rk.d, Rk.parts, List.map_cons, List.map_nil] at ep
    simp only [Rk.ht] at h
    have e1 := lnoughts_eq a k (by omega)
    have e2 := lnoughts_eq b k (by omega)
    unfold ir__law_noughts
    simp (disch := first | omega | (apply cmx <;> omega) | (apply dvok <;> omega) | decide | fail) only [runD, s_cons, s_nil, s_frz, s_fgt, seq_next, seq_ret, seq_err, s_ifs, if_t, if_f, s_fors, s_whl, s_asg, s_nm_fz, s_nm_fr, s_tp, s_ret, s_rse, s_put, s_app, s_ext, s_par, e_and, e_or, and_t, and_f, or_t, or_f, test_bl, e_lc, ev.eq_1, ev.eq_2, ev.eq_3, ev.eq_4, ev.eq_5, ev.eq_6, ev.eq_7, ev.eq_8, ev.eq_9, ev.eq_12, ev.eq_13, ev.eq_14, ev.eq_15, ev.eq_16, ev.eq_17, ev.eq_18, ev.eq_19, ev.eq_20, ev.eq_21, ev.eq_22, ev.eq_23, evs, evo, evIt, MP.R.bind_ok, MP.R.bind_err, notBo_fz, notBo_fr, retK_fz, retK_fr, retK_bo, noErr_ok, binD.eq_1, binD.eq_2, binD.eq_3, binD.eq_4, binD.eq_5, binD.eq_6, binD.eq_7, binD.eq_8, binD.eq_9, binD.eq_10, binD.eq_11, cmpD.eq_3, cmpD.eq_4, cmpD.eq_5, cmpD.eq_6, cmpD.eq_7, cmpD.eq_8, cmpD.eq_9, cmpD.eq_10, cmpD.eq_11, cmpD.eq_12, cmpD.eq_13, ixD.eq_1, ixD.eq_2, ixD.eq_3, ixD.eq_4, ixD.eq_5, biD.eq_1, biD.eq_2, biD.eq_3, biD.eq_4, biD.eq_5, biD.eq_6, biD.eq_7, biD.eq_8, biD.eq_9, biD.eq_10, biD.eq_11, biD.eq_12, biD.eq_13, biD.eq_14, biD.eq_15, biD.eq_16, biD.eq_17, biD.eq_18, biD.eq_19, biD.eq_20, biD.eq_21, biD.eq_22, biD.eq_23, slD.eq_1, slD.eq_2, slD.eq_3, negD.eq_1, isi_int_int, isi_int_bool, isi_str_str, isi_tup_tup, notBos, asInt, asStr, asDic, rOpt, optOk, callD, isBo, bindTg, bindSlots, wipeD, ownL, ownK, ownAt, appD, extD.eq_1, putD.eq_1, putD.eq_2, setOwn, freeze, itemsD.eq_1, itemsD.eq_2, itemsD.eq_3, rng1D.eq_1, rng2D.eq_1, small62, Int.toNat_natCast, turnF, turnL, cast0, cast1, cast2, cast3, cast4, decide_true, decide_false,  freeze, app_len, rep_len,  inD.eq_1, inD.eq_2, inD.eq_3, tyD, MP.isNon, optCons, grd_T, slots_cons, slots_nil, immut, immuts, Option.map_some, Option.map_none, Option.getD_some, Option.getD_none, Option.bind_some, List.getElem?_cons_zero, List.getElem?_cons_succ, List.set_cons_zero, List.set_cons_succ, List.map_cons, List.map_nil, List.any_cons, List.any_nil, List.length_cons, List.length_nil, Nat.reduceAdd, Nat.reduceSub, List.replicate_succ, List.replicate_zero, List.cons_append, List.nil_append, Bool.or_false, Bool.false_and, Bool.and_false, Bool.false_eq_true, if_false, if_true, reduceIte, Bool.not_true, Bool.not_false, ne_eq, not_false_eq_true, and_true, true_and, and_self, Int.reduceEq, Int.reduceNe, not_true_eq_false, Int.reduceToNat, Int.reducePow, Int.reduceMul, Int.reduceAdd, Int.reduceSub, Int.reduceNeg, Nat.reduceLT, okD_int, okD_non, okD_bl, eqD_int, cmp_eqI, cmp_neI, at_0, at_1, at_2, at_3, at_4, cut_1, k_is_is, k_is_nought, k_is_input, k_is_power, k_is_less, k_is_plus, k_is_minus, k_is_times, k_is_over, ki_is, k_nought_is, k_nought_nought, k_nought_input, k_nought_power, k_nought_less, k_nought_plus, k_nought_minus, k_nought_times, k_nought_over, ki_nought, k_input_is, k_input_nought, k_input_input, k_input_power, k_input_less, k_input_plus, k_input_minus, k_input_times, k_input_over, ki_input, k_power_is, k_power_nought, k_power_input, k_power_power, k_power_less, k_power_plus, k_power_minus, k_power_times, k_power_over, ki_power, k_less_is, k_less_nought, k_less_input, k_less_power, k_less_less, k_less_plus, k_less_minus, k_less_times, k_less_over, ki_less, ko_is, ko_nought, ko_input, ko_power, ko_less, ko_plus, ko_minus, ko_times, ko_over, ki_o, ep, Rk.d, Rk.parts, evItems, turnL, e1, e2, mapM_int2, List.sum_cons, List.sum_nil, Rk.nn, grd_pos]
    congr 2
  | .less a b c e, k + 1, h => by
    show runD 2 (ir__law_noughts (m__law_noughts k)) _ = _
    have ep := lparts_eq (.less a b c e)
    simp only [Rk.d, Rk.parts, List.map_cons, List.map_nil] at ep
    simp only [Rk.ht] at h
    have e1 := lnoughts_eq a k (by omega)
    have e2 := lnoughts_eq b k (by omega)
    have e3 := lnoughts_eq c k (by omega)
    have e4 := lnoughts_eq e k (by omega)
    unfold ir__law_noughts
    simp (disch := first | omega | (apply cmx <;> omega) | (apply dvok <;> omega) | decide | fail) only [runD, s_cons, s_nil, s_frz, s_fgt, seq_next, seq_ret, seq_err, s_ifs, if_t, if_f, s_fors, s_whl, s_asg, s_nm_fz, s_nm_fr, s_tp, s_ret, s_rse, s_put, s_app, s_ext, s_par, e_and, e_or, and_t, and_f, or_t, or_f, test_bl, e_lc, ev.eq_1, ev.eq_2, ev.eq_3, ev.eq_4, ev.eq_5, ev.eq_6, ev.eq_7, ev.eq_8, ev.eq_9, ev.eq_12, ev.eq_13, ev.eq_14, ev.eq_15, ev.eq_16, ev.eq_17, ev.eq_18, ev.eq_19, ev.eq_20, ev.eq_21, ev.eq_22, ev.eq_23, evs, evo, evIt, MP.R.bind_ok, MP.R.bind_err, notBo_fz, notBo_fr, retK_fz, retK_fr, retK_bo, noErr_ok, binD.eq_1, binD.eq_2, binD.eq_3, binD.eq_4, binD.eq_5, binD.eq_6, binD.eq_7, binD.eq_8, binD.eq_9, binD.eq_10, binD.eq_11, cmpD.eq_3, cmpD.eq_4, cmpD.eq_5, cmpD.eq_6, cmpD.eq_7, cmpD.eq_8, cmpD.eq_9, cmpD.eq_10, cmpD.eq_11, cmpD.eq_12, cmpD.eq_13, ixD.eq_1, ixD.eq_2, ixD.eq_3, ixD.eq_4, ixD.eq_5, biD.eq_1, biD.eq_2, biD.eq_3, biD.eq_4, biD.eq_5, biD.eq_6, biD.eq_7, biD.eq_8, biD.eq_9, biD.eq_10, biD.eq_11, biD.eq_12, biD.eq_13, biD.eq_14, biD.eq_15, biD.eq_16, biD.eq_17, biD.eq_18, biD.eq_19, biD.eq_20, biD.eq_21, biD.eq_22, biD.eq_23, slD.eq_1, slD.eq_2, slD.eq_3, negD.eq_1, isi_int_int, isi_int_bool, isi_str_str, isi_tup_tup, notBos, asInt, asStr, asDic, rOpt, optOk, callD, isBo, bindTg, bindSlots, wipeD, ownL, ownK, ownAt, appD, extD.eq_1, putD.eq_1, putD.eq_2, setOwn, freeze, itemsD.eq_1, itemsD.eq_2, itemsD.eq_3, rng1D.eq_1, rng2D.eq_1, small62, Int.toNat_natCast, turnF, turnL, cast0, cast1, cast2, cast3, cast4, decide_true, decide_false,  freeze, app_len, rep_len,  inD.eq_1, inD.eq_2, inD.eq_3, tyD, MP.isNon, optCons, grd_T, slots_cons, slots_nil, immut, immuts, Option.map_some, Option.map_none, Option.getD_some, Option.getD_none, Option.bind_some, List.getElem?_cons_zero, List.getElem?_cons_succ, List.set_cons_zero, List.set_cons_succ, List.map_cons, List.map_nil, List.any_cons, List.any_nil, List.length_cons, List.length_nil, Nat.reduceAdd, Nat.reduceSub, List.replicate_succ, List.replicate_zero, List.cons_append, List.nil_append, Bool.or_false, Bool.false_and, Bool.and_false, Bool.false_eq_true, if_false, if_true, reduceIte, Bool.not_true, Bool.not_false, ne_eq, not_false_eq_true, and_true, true_and, and_self, Int.reduceEq, Int.reduceNe, not_true_eq_false, Int.reduceToNat, Int.reducePow, Int.reduceMul, Int.reduceAdd, Int.reduceSub, Int.reduceNeg, Nat.reduceLT, okD_int, okD_non, okD_bl, eqD_int, cmp_eqI, cmp_neI, at_0, at_1, at_2, at_3, at_4, cut_1, k_is_is, k_is_nought, k_is_input, k_is_power, k_is_less, k_is_plus, k_is_minus, k_is_times, k_is_over, ki_is, k_nought_is, k_nought_nought, k_nought_input, k_nought_power, k_nought_less, k_nought_plus, k_nought_minus, k_nought_times, k_nought_over, ki_nought, k_input_is, k_input_nought, k_input_input, k_input_power, k_input_less, k_input_plus, k_input_minus, k_input_times, k_input_over, ki_input, k_power_is, k_power_nought, k_power_input, k_power_power, k_power_less, k_power_plus, k_power_minus, k_power_times, k_power_over, ki_power, k_less_is, k_less_nought, k_less_input, k_less_power, k_less_less, k_less_plus, k_less_minus, k_less_times, k_less_over, ki_less, ko_is, ko_nought, ko_input, ko_power, ko_less, ko_plus, ko_minus, ko_times, ko_over, ki_o, ep, Rk.d, Rk.parts, evItems, turnL, e1, e2, e3, e4, mapM_int4, List.sum_cons, List.sum_nil, Rk.nn, grd_pos]
    congr 2
    congr 1
    omega
theorem inputs0_eq : ∀ (r : Rk) (k : Nat), r.ht < k → r.size ≤ 4000 → m_all_inputs k [r.d] = .ok (.lst (r.ins.map .str), .fr)
  | r, 0, h, _ => absurd h (Nat.not_lt_zero _)
  | .is p m, k + 1, h, hs => by
    show runD 3 (ir_all_inputs (m_all_inputs k)) _ = _
    have ep := parts_eq (.is p m)
    simp only [Rk.d, Rk.parts, List.map_cons, List.map_nil] at ep
    unfold ir_all_inputs
    simp (disch := first | omega | (apply cmx <;> omega) | (apply dvok <;> omega) | decide | fail) only [runD, s_cons, s_nil, s_frz, s_fgt, seq_next, seq_ret, seq_err, s_ifs, if_t, if_f, s_fors, s_whl, s_asg, s_nm_fz, s_nm_fr, s_tp, s_ret, s_rse, s_put, s_app, s_ext, s_par, e_and, e_or, and_t, and_f, or_t, or_f, test_bl, e_lc, ev.eq_1, ev.eq_2, ev.eq_3, ev.eq_4, ev.eq_5, ev.eq_6, ev.eq_7, ev.eq_8, ev.eq_9, ev.eq_12, ev.eq_13, ev.eq_14, ev.eq_15, ev.eq_16, ev.eq_17, ev.eq_18, ev.eq_19, ev.eq_20, ev.eq_21, ev.eq_22, ev.eq_23, evs, evo, evIt, MP.R.bind_ok, MP.R.bind_err, notBo_fz, notBo_fr, retK_fz, retK_fr, retK_bo, noErr_ok, binD.eq_1, binD.eq_2, binD.eq_3, binD.eq_4, binD.eq_5, binD.eq_6, binD.eq_7, binD.eq_8, binD.eq_9, binD.eq_10, binD.eq_11, cmpD.eq_3, cmpD.eq_4, cmpD.eq_5, cmpD.eq_6, cmpD.eq_7, cmpD.eq_8, cmpD.eq_9, cmpD.eq_10, cmpD.eq_11, cmpD.eq_12, cmpD.eq_13, ixD.eq_1, ixD.eq_2, ixD.eq_3, ixD.eq_4, ixD.eq_5, biD.eq_1, biD.eq_2, biD.eq_3, biD.eq_4, biD.eq_5, biD.eq_6, biD.eq_7, biD.eq_8, biD.eq_9, biD.eq_10, biD.eq_11, biD.eq_12, biD.eq_13, biD.eq_14, biD.eq_15, biD.eq_16, biD.eq_17, biD.eq_18, biD.eq_19, biD.eq_20, biD.eq_21, biD.eq_22, biD.eq_23, slD.eq_1, slD.eq_2, slD.eq_3, negD.eq_1, isi_int_int, isi_int_bool, isi_str_str, isi_tup_tup, notBos, asInt, asStr, asDic, rOpt, optOk, callD, isBo, bindTg, bindSlots, wipeD, ownL, ownK, ownAt, appD, extD.eq_1, putD.eq_1, putD.eq_2, setOwn, freeze, itemsD.eq_1, itemsD.eq_2, itemsD.eq_3, rng1D.eq_1, rng2D.eq_1, small62, Int.toNat_natCast, turnF, turnL, cast0, cast1, cast2, cast3, cast4, decide_true, decide_false,  freeze, app_len, rep_len,  inD.eq_1, inD.eq_2, inD.eq_3, tyD, MP.isNon, optCons, grd_T, slots_cons, slots_nil, immut, immuts, Option.map_some, Option.map_none, Option.getD_some, Option.getD_none, Option.bind_some, List.getElem?_cons_zero, List.getElem?_cons_succ, List.set_cons_zero, List.set_cons_succ, List.map_cons, List.map_nil, List.any_cons, List.any_nil, List.length_cons, List.length_nil, Nat.reduceAdd, Nat.reduceSub, List.replicate_succ, List.replicate_zero, List.cons_append, List.nil_append, Bool.or_false, Bool.false_and, Bool.and_false, Bool.false_eq_true, if_false, if_true, reduceIte, Bool.not_true, Bool.not_false, ne_eq, not_false_eq_true, and_true, true_and, and_self, Int.reduceEq, Int.reduceNe, not_true_eq_false, Int.reduceToNat, Int.reducePow, Int.reduceMul, Int.reduceAdd, Int.reduceSub, Int.reduceNeg, Nat.reduceLT, okD_int, okD_non, okD_bl, eqD_int, cmp_eqI, cmp_neI, at_0, at_1, at_2, at_3, at_4, cut_1, k_is_is, k_is_nought, k_is_input, k_is_power, k_is_less, k_is_plus, k_is_minus, k_is_times, k_is_over, ki_is, k_nought_is, k_nought_nought, k_nought_input, k_nought_power, k_nought_less, k_nought_plus, k_nought_minus, k_nought_times, k_nought_over, ki_nought, k_input_is, k_input_nought, k_input_input, k_input_power, k_input_less, k_input_plus, k_input_minus, k_input_times, k_input_over, ki_input, k_power_is, k_power_nought, k_power_input, k_power_power, k_power_less, k_power_plus, k_power_minus, k_power_times, k_power_over, ki_power, k_less_is, k_less_nought, k_less_input, k_less_power, k_less_less, k_less_plus, k_less_minus, k_less_times, k_less_over, ki_less, ko_is, ko_nought, ko_input, ko_power, ko_less, ko_plus, ko_minus, ko_times, ko_over, ki_o, ep, Rk.d, Rk.parts, exFor, turnF, Rk.ins, grd_pos]
  | .nought, k + 1, h, hs => by
    show runD 3 (ir_all_inputs (m_all_inputs k)) _ = _
    have ep := parts_eq .nought
    simp only [Rk.d, Rk.parts, List.map_cons, List.map_nil] at ep
    unfold ir_all_inputs
    simp (disch := first | omega | (apply cmx <;> omega) | (apply dvok <;> omega) | decide | fail) only [runD, s_cons, s_nil, s_frz, s_fgt, seq_next, seq_ret, seq_err, s_ifs, if_t, if_f, s_fors, s_whl, s_asg, s_nm_fz, s_nm_fr, s_tp, s_ret, s_rse, s_put, s_app, s_ext, s_par, e_and, e_or, and_t, and_f, or_t, or_f, test_bl, e_lc, ev.eq_1, ev.eq_2, ev.eq_3, ev.eq_4, ev.eq_5, ev.eq_6, ev.eq_7, ev.eq_8, ev.eq_9, ev.eq_12, ev.eq_13, ev.eq_14, ev.eq_15, ev.eq_16, ev.eq_17, ev.eq_18, ev.eq_19, ev.eq_20, ev.eq_21, ev.eq_22, ev.eq_23, evs, evo, evIt, MP.R.bind_ok, MP.R.bind_err, notBo_fz, notBo_fr, retK_fz, retK_fr, retK_bo, noErr_ok, binD.eq_1, binD.eq_2, binD.eq_3, binD.eq_4, binD.eq_5, binD.eq_6, binD.eq_7, binD.eq_8, binD.eq_9, binD.eq_10, binD.eq_11, cmpD.eq_3, cmpD.eq_4, cmpD.eq_5, cmpD.eq_6, cmpD.eq_7, cmpD.eq_8, cmpD.eq_9, cmpD.eq_10, cmpD.eq_11, cmpD.eq_12, cmpD.eq_13, ixD.eq_1, ixD.eq_2, ixD.eq_3, ixD.eq_4, ixD.eq_5, biD.eq_1, biD.eq_2, biD.eq_3, biD.eq_4, biD.eq_5, biD.eq_6, biD.eq_7, biD.eq_8, biD.eq_9, biD.eq_10, biD.eq_11, biD.eq_12, biD.eq_13, biD.eq_14, biD.eq_15, biD.eq_16, biD.eq_17, biD.eq_18, biD.eq_19, biD.eq_20, biD.eq_21, biD.eq_22, biD.eq_23, slD.eq_1, slD.eq_2, slD.eq_3, negD.eq_1, isi_int_int, isi_int_bool, isi_str_str, isi_tup_tup, notBos, asInt, asStr, asDic, rOpt, optOk, callD, isBo, bindTg, bindSlots, wipeD, ownL, ownK, ownAt, appD, extD.eq_1, putD.eq_1, putD.eq_2, setOwn, freeze, itemsD.eq_1, itemsD.eq_2, itemsD.eq_3, rng1D.eq_1, rng2D.eq_1, small62, Int.toNat_natCast, turnF, turnL, cast0, cast1, cast2, cast3, cast4, decide_true, decide_false,  freeze, app_len, rep_len,  inD.eq_1, inD.eq_2, inD.eq_3, tyD, MP.isNon, optCons, grd_T, slots_cons, slots_nil, immut, immuts, Option.map_some, Option.map_none, Option.getD_some, Option.getD_none, Option.bind_some, List.getElem?_cons_zero, List.getElem?_cons_succ, List.set_cons_zero, List.set_cons_succ, List.map_cons, List.map_nil, List.any_cons, List.any_nil, List.length_cons, List.length_nil, Nat.reduceAdd, Nat.reduceSub, List.replicate_succ, List.replicate_zero, List.cons_append, List.nil_append, Bool.or_false, Bool.false_and, Bool.and_false, Bool.false_eq_true, if_false, if_true, reduceIte, Bool.not_true, Bool.not_false, ne_eq, not_false_eq_true, and_true, true_and, and_self, Int.reduceEq, Int.reduceNe, not_true_eq_false, Int.reduceToNat, Int.reducePow, Int.reduceMul, Int.reduceAdd, Int.reduceSub, Int.reduceNeg, Nat.reduceLT, okD_int, okD_non, okD_bl, eqD_int, cmp_eqI, cmp_neI, at_0, at_1, at_2, at_3, at_4, cut_1, k_is_is, k_is_nought, k_is_input, k_is_power, k_is_less, k_is_plus, k_is_minus, k_is_times, k_is_over, ki_is, k_nought_is, k_nought_nought, k_nought_input, k_nought_power, k_nought_less, k_nought_plus, k_nought_minus, k_nought_times, k_nought_over, ki_nought, k_input_is, k_input_nought, k_input_input, k_input_power, k_input_less, k_input_plus, k_input_minus, k_input_times, k_input_over, ki_input, k_power_is, k_power_nought, k_power_input, k_power_power, k_power_less, k_power_plus, k_power_minus, k_power_times, k_power_over, ki_power, k_less_is, k_less_nought, k_less_input, k_less_power, k_less_less, k_less_plus, k_less_minus, k_less_times, k_less_over, ki_less, ko_is, ko_nought, ko_input, ko_power, ko_less, ko_plus, ko_minus, ko_times, ko_over, ki_o, ep, Rk.d, Rk.parts, exFor, turnF, Rk.ins, grd_pos]
  | .input s, k + 1, h, hs => by
    show runD 3 (ir_all_inputs (m_all_inputs k)) _ = _
    unfold ir_all_inputs
    simp (disch := first | omega | (apply cmx <;> omega) | (apply dvok <;> omega) | decide | fail) only [runD, s_cons, s_nil, s_frz, s_fgt, seq_next, seq_ret, seq_err, s_ifs, if_t, if_f, s_fors, s_whl, s_asg, s_nm_fz, s_nm_fr, s_tp, s_ret, s_rse, s_put, s_app, s_ext, s_par, e_and, e_or, and_t, and_f, or_t, or_f, test_bl, e_lc, ev.eq_1, ev.eq_2, ev.eq_3, ev.eq_4, ev.eq_5, ev.eq_6, ev.eq_7, ev.eq_8, ev.eq_9, ev.eq_12, ev.eq_13, ev.eq_14, ev.eq_15, ev.eq_16, ev.eq_17, ev.eq_18, ev.eq_19, ev.eq_20, ev.eq_21, ev.eq_22, ev.eq_23, evs, evo, evIt, MP.R.bind_ok, MP.R.bind_err, notBo_fz, notBo_fr, retK_fz, retK_fr, retK_bo, noErr_ok, binD.eq_1, binD.eq_2, binD.eq_3, binD.eq_4, binD.eq_5, binD.eq_6, binD.eq_7, binD.eq_8, binD.eq_9, binD.eq_10, binD.eq_11, cmpD.eq_3, cmpD.eq_4, cmpD.eq_5, cmpD.eq_6, cmpD.eq_7, cmpD.eq_8, cmpD.eq_9, cmpD.eq_10, cmpD.eq_11, cmpD.eq_12, cmpD.eq_13, ixD.eq_1, ixD.eq_2, ixD.eq_3, ixD.eq_4, ixD.eq_5, biD.eq_1, biD.eq_2, biD.eq_3, biD.eq_4, biD.eq_5, biD.eq_6, biD.eq_7, biD.eq_8, biD.eq_9, biD.eq_10, biD.eq_11, biD.eq_12, biD.eq_13, biD.eq_14, biD.eq_15, biD.eq_16, biD.eq_17, biD.eq_18, biD.eq_19, biD.eq_20, biD.eq_21, biD.eq_22, biD.eq_23, slD.eq_1, slD.eq_2, slD.eq_3, negD.eq_1, isi_int_int, isi_int_bool, isi_str_str, isi_tup_tup, notBos, asInt, asStr, asDic, rOpt, optOk, callD, isBo, bindTg, bindSlots, wipeD, ownL, ownK, ownAt, appD, extD.eq_1, putD.eq_1, putD.eq_2, setOwn, freeze, itemsD.eq_1, itemsD.eq_2, itemsD.eq_3, rng1D.eq_1, rng2D.eq_1, small62, Int.toNat_natCast, turnF, turnL, cast0, cast1, cast2, cast3, cast4, decide_true, decide_false,  freeze, app_len, rep_len,  inD.eq_1, inD.eq_2, inD.eq_3, tyD, MP.isNon, optCons, grd_T, slots_cons, slots_nil, immut, immuts, Option.map_some, Option.map_none, Option.getD_some, Option.getD_none, Option.bind_some, List.getElem?_cons_zero, List.getElem?_cons_succ, List.set_cons_zero, List.set_cons_succ, List.map_cons, List.map_nil, List.any_cons, List.any_nil, List.length_cons, List.length_nil, Nat.reduceAdd, Nat.reduceSub, List.replicate_succ, List.replicate_zero, List.cons_append, List.nil_append, Bool.or_false, Bool.false_and, Bool.and_false, Bool.false_eq_true, if_false, if_true, reduceIte, Bool.not_true, Bool.not_false, ne_eq, not_false_eq_true, and_true, true_and, and_self, Int.reduceEq, Int.reduceNe, not_true_eq_false, Int.reduceToNat, Int.reducePow, Int.reduceMul, Int.reduceAdd, Int.reduceSub, Int.reduceNeg, Nat.reduceLT, okD_int, okD_non, okD_bl, eqD_int, cmp_eqI, cmp_neI, at_0, at_1, at_2, at_3, at_4, cut_1, k_is_is, k_is_nought, k_is_input, k_is_power, k_is_less, k_is_plus, k_is_minus, k_is_times, k_is_over, ki_is, k_nought_is, k_nought_nought, k_nought_input, k_nought_power, k_nought_less, k_nought_plus, k_nought_minus, k_nought_times, k_nought_over, ki_nought, k_input_is, k_input_nought, k_input_input, k_input_power, k_input_less, k_input_plus, k_input_minus, k_input_times, k_input_over, ki_input, k_power_is, k_power_nought, k_power_input, k_power_power, k_power_less, k_power_plus, k_power_minus, k_power_times, k_power_over, ki_power, k_less_is, k_less_nought, k_less_input, k_less_power, k_less_less, k_less_plus, k_less_minus, k_less_times, k_less_over, ki_less, ko_is, ko_nought, ko_input, ko_power, ko_less, ko_plus, ko_minus, ko_times, ko_over, ki_o, Rk.d, Rk.ins, grd_pos]
  | .pw a n, k + 1, h, hs => by
    show runD 3 (ir_all_inputs (m_all_inputs k)) _ = _
    have ep := parts_eq (.pw a n)
    simp only [Rk.d, Rk.parts, List.map_cons, List.map_nil] at ep
    simp only [Rk.ht] at h
    simp only [Rk.size] at hs
    have e1 := inputs0_eq a k (by omega) (by omega)
    have l1 := a.ins_size
    unfold ir_all_inputs
    simp (disch := first | omega | (apply cmx <;> omega) | (apply dvok <;> omega) | decide | fail) only [runD, s_cons, s_nil, s_frz, s_fgt, seq_next, seq_ret, seq_err, s_ifs, if_t, if_f, s_fors, s_whl, s_asg, s_nm_fz, s_nm_fr, s_tp, s_ret, s_rse, s_put, s_app, s_ext, s_par, e_and, e_or, and_t, and_f, or_t, or_f, test_bl, e_lc, ev.eq_1, ev.eq_2, ev.eq_3, ev.eq_4, ev.eq_5, ev.eq_6, ev.eq_7, ev.eq_8, ev.eq_9, ev.eq_12, ev.eq_13, ev.eq_14, ev.eq_15, ev.eq_16, ev.eq_17, ev.eq_18, ev.eq_19, ev.eq_20, ev.eq_21, ev.eq_22, ev.eq_23, evs, evo, evIt, MP.R.bind_ok, MP.R.bind_err, notBo_fz, notBo_fr, retK_fz, retK_fr, retK_bo, noErr_ok, binD.eq_1, binD.eq_2, binD.eq_3, binD.eq_4, binD.eq_5, binD.eq_6, binD.eq_7, binD.eq_8, binD.eq_9, binD.eq_10, binD.eq_11, cmpD.eq_3, cmpD.eq_4, cmpD.eq_5, cmpD.eq_6, cmpD.eq_7, cmpD.eq_8, cmpD.eq_9, cmpD.eq_10, cmpD.eq_11, cmpD.eq_12, cmpD.eq_13, ixD.eq_1, ixD.eq_2, ixD.eq_3, ixD.eq_4, ixD.eq_5, biD.eq_1, biD.eq_2, biD.eq_3, biD.eq_4, biD.eq_5, biD.eq_6, biD.eq_7, biD.eq_8, biD.eq_9, biD.eq_10, biD.eq_11, biD.eq_12, biD.eq_13, biD.eq_14, biD.eq_15, biD.eq_16, biD.eq_17, biD.eq_18, biD.eq_19, biD.eq_20, biD.eq_21, biD.eq_22, biD.eq_23, slD.eq_1, slD.eq_2, slD.eq_3, negD.eq_1, isi_int_int, isi_int_bool, isi_str_str, isi_tup_tup, notBos, asInt, asStr, asDic, rOpt, optOk, callD, isBo, bindTg, bindSlots, wipeD, ownL, ownK, ownAt, appD, extD.eq_1, putD.eq_1, putD.eq_2, setOwn, freeze, itemsD.eq_1, itemsD.eq_2, itemsD.eq_3, rng1D.eq_1, rng2D.eq_1, small62, Int.toNat_natCast, turnF, turnL, cast0, cast1, cast2, cast3, cast4, decide_true, decide_false,  freeze, app_len, rep_len,  inD.eq_1, inD.eq_2, inD.eq_3, tyD, MP.isNon, optCons, grd_T, slots_cons, slots_nil, immut, immuts, Option.map_some, Option.map_none, Option.getD_some, Option.getD_none, Option.bind_some, List.getElem?_cons_zero, List.getElem?_cons_succ, List.set_cons_zero, List.set_cons_succ, List.map_cons, List.map_nil, List.any_cons, List.any_nil, List.length_cons, List.length_nil, Nat.reduceAdd, Nat.reduceSub, List.replicate_succ, List.replicate_zero, List.cons_append, List.nil_append, Bool.or_false, Bool.false_and, Bool.and_false, Bool.false_eq_true, if_false, if_true, reduceIte, Bool.not_true, Bool.not_false, ne_eq, not_false_eq_true, and_true, true_and, and_self, Int.reduceEq, Int.reduceNe, not_true_eq_false, Int.reduceToNat, Int.reducePow, Int.reduceMul, Int.reduceAdd, Int.reduceSub, Int.reduceNeg, Nat.reduceLT, okD_int, okD_non, okD_bl, eqD_int, cmp_eqI, cmp_neI, at_0, at_1, at_2, at_3, at_4, cut_1, k_is_is, k_is_nought, k_is_input, k_is_power, k_is_less, k_is_plus, k_is_minus, k_is_times, k_is_over, ki_is, k_nought_is, k_nought_nought, k_nought_input, k_nought_power, k_nought_less, k_nought_plus, k_nought_minus, k_nought_times, k_nought_over, ki_nought, k_input_is, k_input_nought, k_input_input, k_input_power, k_input_less, k_input_plus, k_input_minus, k_input_times, k_input_over, ki_input, k_power_is, k_power_nought, k_power_input, k_power_power, k_power_less, k_power_plus, k_power_minus, k_power_times, k_power_over, ki_power, k_less_is, k_less_nought, k_less_input, k_less_power, k_less_less, k_less_plus, k_less_minus, k_less_times, k_less_over, ki_less, ko_is, ko_nought, ko_input, ko_power, ko_less, ko_plus, ko_minus, ko_times, ko_over, ki_o, ep, Rk.d, Rk.parts, exFor, turnF, e1, Rk.ins, List.length_map, List.length_append, grd_pos]
  | .bin o a b, k + 1, h, hs => by
    show runD 3 (ir_all_inputs (m_all_inputs k)) _ = _
    have ep := parts_eq (.bin o a b)
    simp only [Rk.d, Rk.parts, List.map_cons, List.map_nil] at ep
    simp only [Rk.ht] at h
    simp only [Rk.size] at hs
    have e1 := inputs0_eq a k (by omega) (by omega)
    have e2 := inputs0_eq b k (by omega) (by omega)
    have l1 := a.ins_size
    have l2 := b.ins_size
    unfold ir_all_inputs
    simp (disch := first | omega | (apply cmx <;> omega) | (apply dvok <;> omega) | decide | fail) only [runD, s_cons, s_nil, s_frz, s_fgt, seq_next, seq_ret, seq_err, s_ifs, if_t, if_f, s_fors, s_whl, s_asg, s_nm_fz, s_nm_fr, s_tp, s_ret, s_rse, s_put, s_app, s_ext, s_par, e_and, e_or, and_t, and_f, or_t, or_f, test_bl, e_lc, ev.eq_1, ev.eq_2, ev.eq_3, ev.eq_4, ev.eq_5, ev.eq_6, ev.eq_7, ev.eq_8, ev.eq_9, ev.eq_12, ev.eq_13, ev.eq_14, ev.eq_15, ev.eq_16, ev.eq_17, ev.eq_18, ev.eq_19, ev.eq_20, ev.eq_21, ev.eq_22, ev.eq_23, evs, evo, evIt, MP.R.bind_ok, MP.R.bind_err, notBo_fz, notBo_fr, retK_fz, retK_fr, retK_bo, noErr_ok, binD.eq_1, binD.eq_2, binD.eq_3, binD.eq_4, binD.eq_5, binD.eq_6, binD.eq_7, binD.eq_8, binD.eq_9, binD.eq_10, binD.eq_11, cmpD.eq_3, cmpD.eq_4, cmpD.eq_5, cmpD.eq_6, cmpD.eq_7, cmpD.eq_8, cmpD.eq_9, cmpD.eq_10, cmpD.eq_11, cmpD.eq_12, cmpD.eq_13, ixD.eq_1, ixD.eq_2, ixD.eq_3, ixD.eq_4, ixD.eq_5, biD.eq_1, biD.eq_2, biD.eq_3, biD.eq_4, biD.eq_5, biD.eq_6, biD.eq_7, biD.eq_8, biD.eq_9, biD.eq_10, biD.eq_11, biD.eq_12, biD.eq_13, biD.eq_14, biD.eq_15, biD.eq_16, biD.eq_17, biD.eq_18, biD.eq_19, biD.eq_20, biD.eq_21, biD.eq_22, biD.eq_23, slD.eq_1, slD.eq_2, slD.eq_3, negD.eq_1, isi_int_int, isi_int_bool, isi_str_str, isi_tup_tup, notBos, asInt, asStr, asDic, rOpt, optOk, callD, isBo, bindTg, bindSlots, wipeD, ownL, ownK, ownAt, appD, extD.eq_1, putD.eq_1, putD.eq_2, setOwn, freeze, itemsD.eq_1, itemsD.eq_2, itemsD.eq_3, rng1D.eq_1, rng2D.eq_1, small62, Int.toNat_natCast, turnF, turnL, cast0, cast1, cast2, cast3, cast4, decide_true, decide_false,  freeze, app_len, rep_len,  inD.eq_1, inD.eq_2, inD.eq_3, tyD, MP.isNon, optCons, grd_T, slots_cons, slots_nil, immut, immuts, Option.map_some, Option.map_none, Option.getD_some, Option.getD_none, Option.bind_some, List.getElem?_cons_zero, List.getElem?_cons_succ, List.set_cons_zero, List.set_cons_succ, List.map_cons, List.map_nil, List.any_cons, List.any_nil, List.length_cons, List.length_nil, Nat.reduceAdd, Nat.reduceSub, List.replicate_succ, List.replicate_zero, List.cons_append, List.nil_append, Bool.or_false, Bool.false_and, Bool.and_false, Bool.false_eq_true, if_false, if_true, reduceIte, Bool.not_true, Bool.not_false, ne_eq, not_false_eq_true, and_true, true_and, and_self, Int.reduceEq, Int.reduceNe, not_true_eq_false, Int.reduceToNat, Int.reducePow, Int.reduceMul, Int.reduceAdd, Int.reduceSub, Int.reduceNeg, Nat.reduceLT, okD_int, okD_non, okD_bl, eqD_int, cmp_eqI, cmp_neI, at_0, at_1, at_2, at_3, at_4, cut_1, k_is_is, k_is_nought, k_is_input, k_is_power, k_is_less, k_is_plus, k_is_minus, k_is_times, k_is_over, ki_is, k_nought_is, k_nought_nought, k_nought_input, k_nought_power, k_nought_less, k_nought_plus, k_nought_minus, k_nought_times, k_nought_over, ki_nought, k_input_is, k_input_nought, k_input_input, k_input_power, k_input_less, k_input_plus, k_input_minus, k_input_times, k_input_over, ki_input, k_power_is, k_power_nought, k_power_input, k_power_power, k_power_less, k_power_plus, k_power_minus, k_power_times, k_power_over, ki_power, k_less_is, k_less_nought, k_less_input, k_less_power, k_less_less, k_less_plus, k_less_minus, k_less_times, k_less_over, ki_less, ko_is, ko_nought, ko_input, ko_power, ko_less, ko_plus, ko_minus, ko_times, ko_over, ki_o, ep, Rk.d, Rk.parts, exFor, turnF, e1, e2, Rk.ins, List.length_map, List.length_append, List.map_append, grd_pos]
  | .less a b c e, k + 1, h, hs => by
    show runD 3 (ir_all_inputs (m_all_inputs k)) _ = _
    have ep := parts_eq (.less a b c e)
    simp only [Rk.d, Rk.parts, List.map_cons, List.map_nil] at ep
    simp only [Rk.ht] at h
    simp only [Rk.size] at hs
    have e1 := inputs0_eq a k (by omega) (by omega)
    have e2 := inputs0_eq b k (by omega) (by omega)
    have e3 := inputs0_eq c k (by omega) (by omega)
    have e4 := inputs0_eq e k (by omega) (by omega)
    have l1 := a.ins_size
    have l2 := b.ins_size
    have l3 := c.ins_size
    have l4 := e.ins_size
    unfold ir_all_inputs
    simp (disch := first | omega | (apply cmx <;> omega) | (apply dvok <;> omega) | decide | fail) only [runD, s_cons, s_nil, s_frz, s_fgt, seq_next, seq_ret, seq_err, s_ifs, if_t, if_f, s_fors, s_whl, s_asg, s_nm_fz, s_nm_fr, s_tp, s_ret, s_rse, s_put, s_app, s_ext, s_par, e_and, e_or, and_t, and_f, or_t, or_f, test_bl, e_lc, ev.eq_1, ev.eq_2, ev.eq_3, ev.eq_4, ev.eq_5, ev.eq_6, ev.eq_7, ev.eq_8, ev.eq_9, ev.eq_12, ev.eq_13, ev.eq_14, ev.eq_15, ev.eq_16, ev.eq_17, ev.eq_18, ev.eq_19, ev.eq_20, ev.eq_21, ev.eq_22, ev.eq_23, evs, evo, evIt, MP.R.bind_ok, MP.R.bind_err, notBo_fz, notBo_fr, retK_fz, retK_fr, retK_bo, noErr_ok, binD.eq_1, binD.eq_2, binD.eq_3, binD.eq_4, binD.eq_5, binD.eq_6, binD.eq_7, binD.eq_8, binD.eq_9, binD.eq_10, binD.eq_11, cmpD.eq_3, cmpD.eq_4, cmpD.eq_5, cmpD.eq_6, cmpD.eq_7, cmpD.eq_8, cmpD.eq_9, cmpD.eq_10, cmpD.eq_11, cmpD.eq_12, cmpD.eq_13, ixD.eq_1, ixD.eq_2, ixD.eq_3, ixD.eq_4, ixD.eq_5, biD.eq_1, biD.eq_2, biD.eq_3, biD.eq_4, biD.eq_5, biD.eq_6, biD.eq_7, biD.eq_8, biD.eq_9, biD.eq_10, biD.eq_11, biD.eq_12, biD.eq_13, biD.eq_14, biD.eq_15, biD.eq_16, biD.eq_17, biD.eq_18, biD.eq_19, biD.eq_20, biD.eq_21, biD.eq_22, biD.eq_23, slD.eq_1, slD.eq_2, slD.eq_3, negD.eq_1, isi_int_int, isi_int_bool, isi_str_str, isi_tup_tup, notBos, asInt, asStr, asDic, rOpt, optOk, callD, isBo, bindTg, bindSlots, wipeD, ownL, ownK, ownAt, appD, extD.eq_1, putD.eq_1, putD.eq_2, setOwn, freeze, itemsD.eq_1, itemsD.eq_2, itemsD.eq_3, rng1D.eq_1, rng2D.eq_1, small62, Int.toNat_natCast, turnF, turnL, cast0, cast1, cast2, cast3, cast4, decide_true, decide_false,  freeze, app_len, rep_len,  inD.eq_1, inD.eq_2, inD.eq_3, tyD, MP.isNon, optCons, grd_T, slots_cons, slots_nil, immut, immuts, Option.map_some, Option.map_none, Option.getD_some, Option.getD_none, Option.bind_some, List.getElem?_cons_zero, List.getElem?_cons_succ, List.set_cons_zero, List.set_cons_succ, List.map_cons, List.map_nil, List.any_cons, List.any_nil, List.length_cons, List.length_nil, Nat.reduceAdd, Nat.reduceSub, List.replicate_succ, List.replicate_zero, List.cons_append, List.nil_append, Bool.or_false, Bool.false_and, Bool.and_false, Bool.false_eq_true, if_false, if_true, reduceIte, Bool.not_true, Bool.not_false, ne_eq, not_false_eq_true, and_true, true_and, and_self, Int.reduceEq, Int.reduceNe, not_true_eq_false, Int.reduceToNat, Int.reducePow, Int.reduceMul, Int.reduceAdd, Int.reduceSub, Int.reduceNeg, Nat.reduceLT, okD_int, okD_non, okD_bl, eqD_int, cmp_eqI, cmp_neI, at_0, at_1, at_2, at_3, at_4, cut_1, k_is_is, k_is_nought, k_is_input, k_is_power, k_is_less, k_is_plus, k_is_minus, k_is_times, k_is_over, ki_is, k_nought_is, k_nought_nought, k_nought_input, k_nought_power, k_nought_less, k_nought_plus, k_nought_minus, k_nought_times, k_nought_over, ki_nought, k_input_is, k_input_nought, k_input_input, k_input_power, k_input_less, k_input_plus, k_input_minus, k_input_times, k_input_over, ki_input, k_power_is, k_power_nought, k_power_input, k_power_power, k_power_less, k_power_plus, k_power_minus, k_power_times, k_power_over, ki_power, k_less_is, k_less_nought, k_less_input, k_less_power, k_less_less, k_less_plus, k_less_minus, k_less_times, k_less_over, ki_less, ko_is, ko_nought, ko_input, ko_power, ko_less, ko_plus, ko_minus, ko_times, ko_over, ki_o, ep, Rk.d, Rk.parts, exFor, turnF, e1, e2, e3, e4, Rk.ins, List.length_map, List.length_append, List.map_append, grd_pos]
theorem inputs_eq (r : Rk) (h : r.ht < 20) (hs : r.size ≤ 4000) : m_inputs [r.d] = .ok (.lst ((sinS r.ins).map .str), .fr) := by
  have e := inputs0_eq r 20 h hs
  have l := r.ins_size
  unfold m_inputs ir_inputs
  simp (disch := first | omega | (apply cmx <;> omega) | (apply dvok <;> omega) | decide | fail) only [runD, s_cons, s_nil, s_frz, s_fgt, seq_next, seq_ret, seq_err, s_ifs, if_t, if_f, s_fors, s_whl, s_asg, s_nm_fz, s_nm_fr, s_tp, s_ret, s_rse, s_put, s_app, s_ext, s_par, e_and, e_or, and_t, and_f, or_t, or_f, test_bl, e_lc, ev.eq_1, ev.eq_2, ev.eq_3, ev.eq_4, ev.eq_5, ev.eq_6, ev.eq_7, ev.eq_8, ev.eq_9, ev.eq_12, ev.eq_13, ev.eq_14, ev.eq_15, ev.eq_16, ev.eq_17, ev.eq_18, ev.eq_19, ev.eq_20, ev.eq_21, ev.eq_22, ev.eq_23, evs, evo, evIt, MP.R.bind_ok, MP.R.bind_err, notBo_fz, notBo_fr, retK_fz, retK_fr, retK_bo, noErr_ok, binD.eq_1, binD.eq_2, binD.eq_3, binD.eq_4, binD.eq_5, binD.eq_6, binD.eq_7, binD.eq_8, binD.eq_9, binD.eq_10, binD.eq_11, cmpD.eq_3, cmpD.eq_4, cmpD.eq_5, cmpD.eq_6, cmpD.eq_7, cmpD.eq_8, cmpD.eq_9, cmpD.eq_10, cmpD.eq_11, cmpD.eq_12, cmpD.eq_13, ixD.eq_1, ixD.eq_2, ixD.eq_3, ixD.eq_4, ixD.eq_5, biD.eq_1, biD.eq_2, biD.eq_3, biD.eq_4, biD.eq_5, biD.eq_6, biD.eq_7, biD.eq_8, biD.eq_9, biD.eq_10, biD.eq_11, biD.eq_12, biD.eq_13, biD.eq_14, biD.eq_15, biD.eq_16, biD.eq_17, biD.eq_18, biD.eq_19, biD.eq_20, biD.eq_21, biD.eq_22, biD.eq_23, slD.eq_1, slD.eq_2, slD.eq_3, negD.eq_1, isi_int_int, isi_int_bool, isi_str_str, isi_tup_tup, notBos, asInt, asStr, asDic, rOpt, optOk, callD, isBo, bindTg, bindSlots, wipeD, ownL, ownK, ownAt, appD, extD.eq_1, putD.eq_1, putD.eq_2, setOwn, freeze, itemsD.eq_1, itemsD.eq_2, itemsD.eq_3, rng1D.eq_1, rng2D.eq_1, small62, Int.toNat_natCast, turnF, turnL, cast0, cast1, cast2, cast3, cast4, decide_true, decide_false,  freeze, app_len, rep_len,  inD.eq_1, inD.eq_2, inD.eq_3, tyD, MP.isNon, optCons, grd_T, slots_cons, slots_nil, immut, immuts, Option.map_some, Option.map_none, Option.getD_some, Option.getD_none, Option.bind_some, List.getElem?_cons_zero, List.getElem?_cons_succ, List.set_cons_zero, List.set_cons_succ, List.map_cons, List.map_nil, List.any_cons, List.any_nil, List.length_cons, List.length_nil, Nat.reduceAdd, Nat.reduceSub, List.replicate_succ, List.replicate_zero, List.cons_append, List.nil_append, Bool.or_false, Bool.false_and, Bool.and_false, Bool.false_eq_true, if_false, if_true, reduceIte, Bool.not_true, Bool.not_false, ne_eq, not_false_eq_true, and_true, true_and, and_self, Int.reduceEq, Int.reduceNe, not_true_eq_false, Int.reduceToNat, Int.reducePow, Int.reduceMul, Int.reduceAdd, Int.reduceSub, Int.reduceNeg, Nat.reduceLT, okD_int, okD_non, okD_bl, eqD_int, cmp_eqI, cmp_neI, at_0, at_1, at_2, at_3, at_4, cut_1, k_is_is, k_is_nought, k_is_input, k_is_power, k_is_less, k_is_plus, k_is_minus, k_is_times, k_is_over, ki_is, k_nought_is, k_nought_nought, k_nought_input, k_nought_power, k_nought_less, k_nought_plus, k_nought_minus, k_nought_times, k_nought_over, ki_nought, k_input_is, k_input_nought, k_input_input, k_input_power, k_input_less, k_input_plus, k_input_minus, k_input_times, k_input_over, ki_input, k_power_is, k_power_nought, k_power_input, k_power_power, k_power_less, k_power_plus, k_power_minus, k_power_times, k_power_over, ki_power, k_less_is, k_less_nought, k_less_input, k_less_power, k_less_less, k_less_plus, k_less_minus, k_less_times, k_less_over, ki_less, ko_is, ko_nought, ko_input, ko_power, ko_less, ko_plus, ko_minus, ko_times, ko_over, ki_o, e, ssetD, mapM_strl, rOpt, sinS, grd_pos]
theorem linputs_eq : ∀ (r : Rk) (k : Nat), r.ht < k → r.size ≤ 4000 → m__law_inputs k [r.d] = .ok (.lst ((sinS r.ins).map .str), .fr)
  | r, 0, h, _ => absurd h (Nat.not_lt_zero _)
  | .is p m, k + 1, h, hs => by
    show runD 3 (ir__law_inputs (m__law_inputs k)) _ = _
    have ep := lparts_eq (.is p m)
    simp only [Rk.d, Rk.parts, List.map_cons, List.map_nil] at ep
    unfold ir__law_inputs
    simp (disch := first | omega | (apply cmx <;> omega) | (apply dvok <;> omega) | decide | fail) only [runD, s_cons, s_nil, s_frz, s_fgt, seq_next, seq_ret, seq_err, s_ifs, if_t, if_f, s_fors, s_whl, s_asg, s_nm_fz, s_nm_fr, s_tp, s_ret, s_rse, s_put, s_app, s_ext, s_par, e_and, e_or, and_t, and_f, or_t, or_f, test_bl, e_lc, ev.eq_1, ev.eq_2, ev.eq_3, ev.eq_4, ev.eq_5, ev.eq_6, ev.eq_7, ev.eq_8, ev.eq_9, ev.eq_12, ev.eq_13, ev.eq_14, ev.eq_15, ev.eq_16, ev.eq_17, ev.eq_18, ev.eq_19, ev.eq_20, ev.eq_21, ev.eq_22, ev.eq_23, evs, evo, evIt, MP.R.bind_ok, MP.R.bind_err, notBo_fz, notBo_fr, retK_fz, retK_fr, retK_bo, noErr_ok, binD.eq_1, binD.eq_2, binD.eq_3, binD.eq_4, binD.eq_5, binD.eq_6, binD.eq_7, binD.eq_8, binD.eq_9, binD.eq_10, binD.eq_11, cmpD.eq_3, cmpD.eq_4, cmpD.eq_5, cmpD.eq_6, cmpD.eq_7, cmpD.eq_8, cmpD.eq_9, cmpD.eq_10, cmpD.eq_11, cmpD.eq_12, cmpD.eq_13, ixD.eq_1, ixD.eq_2, ixD.eq_3, ixD.eq_4, ixD.eq_5, biD.eq_1, biD.eq_2, biD.eq_3, biD.eq_4, biD.eq_5, biD.eq_6, biD.eq_7, biD.eq_8, biD.eq_9, biD.eq_10, biD.eq_11, biD.eq_12, biD.eq_13, biD.eq_14, biD.eq_15, biD.eq_16, biD.eq_17, biD.eq_18, biD.eq_19, biD.eq_20, biD.eq_21, biD.eq_22, biD.eq_23, slD.eq_1, slD.eq_2, slD.eq_3, negD.eq_1, isi_int_int, isi_int_bool, isi_str_str, isi_tup_tup, notBos, asInt, asStr, asDic, rOpt, optOk, callD, isBo, bindTg, bindSlots, wipeD, ownL, ownK, ownAt, appD, extD.eq_1, putD.eq_1, putD.eq_2, setOwn, freeze, itemsD.eq_1, itemsD.eq_2, itemsD.eq_3, rng1D.eq_1, rng2D.eq_1, small62, Int.toNat_natCast, turnF, turnL, cast0, cast1, cast2, cast3, cast4, decide_true, decide_false,  freeze, app_len, rep_len,  inD.eq_1, inD.eq_2, inD.eq_3, tyD, MP.isNon, optCons, grd_T, slots_cons, slots_nil, immut, immuts, Option.map_some, Option.map_none, Option.getD_some, Option.getD_none, Option.bind_some, List.getElem?_cons_zero, List.getElem?_cons_succ, List.set_cons_zero, List.set_cons_succ, List.map_cons, List.map_nil, List.any_cons, List.any_nil, List.length_cons, List.length_nil, Nat.reduceAdd, Nat.reduceSub, List.replicate_succ, List.replicate_zero, List.cons_append, List.nil_append, Bool.or_false, Bool.false_and, Bool.and_false, Bool.false_eq_true, if_false, if_true, reduceIte, Bool.not_true, Bool.not_false, ne_eq, not_false_eq_true, and_true, true_and, and_self, Int.reduceEq, Int.reduceNe, not_true_eq_false, Int.reduceToNat, Int.reducePow, Int.reduceMul, Int.reduceAdd, Int.reduceSub, Int.reduceNeg, Nat.reduceLT, okD_int, okD_non, okD_bl, eqD_int, cmp_eqI, cmp_neI, at_0, at_1, at_2, at_3, at_4, cut_1, k_is_is, k_is_nought, k_is_input, k_is_power, k_is_less, k_is_plus, k_is_minus, k_is_times, k_is_over, ki_is, k_nought_is, k_nought_nought, k_nought_input, k_nought_power, k_nought_less, k_nought_plus, k_nought_minus, k_nought_times, k_nought_over, ki_nought, k_input_is, k_input_nought, k_input_input, k_input_power, k_input_less, k_input_plus, k_input_minus, k_input_times, k_input_over, ki_input, k_power_is, k_power_nought, k_power_input, k_power_power, k_power_less, k_power_plus, k_power_minus, k_power_times, k_power_over, ki_power, k_less_is, k_less_nought, k_less_input, k_less_power, k_less_less, k_less_plus, k_less_minus, k_less_times, k_less_over, ki_less, ko_is, ko_nought, ko_input, ko_power, ko_less, ko_plus, ko_minus, ko_times, ko_over, ki_o, ep, Rk.d, Rk.parts, exFor, turnF, Rk.ins, ssetD, mapM_str0, rOpt, grd_pos]
    rfl
  | .nought, k + 1, h, hs => by
    show runD 3 (ir__law_inputs (m__law_inputs k)) _ = _
    have ep := lparts_eq .nought
    simp only [Rk.d, Rk.parts, List.map_cons, List.map_nil] at ep
    unfold ir__law_inputs
    simp (disch := first | omega | (apply cmx <;> omega) | (apply dvok <;> omega) | decide | fail) only [runD, s_cons, s_nil, s_frz, s_fgt, seq_next, seq_ret, seq_err, s_ifs, if_t, if_f, s_fors, s_whl, s_asg, s_nm_fz, s_nm_fr, s_tp, s_ret, s_rse, s_put, s_app, s_ext, s_par, e_and, e_or, and_t, and_f, or_t, or_f, test_bl, e_lc, ev.eq_1, ev.eq_2, ev.eq_3, ev.eq_4, ev.eq_5, ev.eq_6, ev.eq_7, ev.eq_8, ev.eq_9, ev.eq_12, ev.eq_13, ev.eq_14, ev.eq_15, ev.eq_16, ev.eq_17, ev.eq_18, ev.eq_19, ev.eq_20, ev.eq_21, ev.eq_22, ev.eq_23, evs, evo, evIt, MP.R.bind_ok, MP.R.bind_err, notBo_fz, notBo_fr, retK_fz, retK_fr, retK_bo, noErr_ok, binD.eq_1, binD.eq_2, binD.eq_3, binD.eq_4, binD.eq_5, binD.eq_6, binD.eq_7, binD.eq_8, binD.eq_9, binD.eq_10, binD.eq_11, cmpD.eq_3, cmpD.eq_4, cmpD.eq_5, cmpD.eq_6, cmpD.eq_7, cmpD.eq_8, cmpD.eq_9, cmpD.eq_10, cmpD.eq_11, cmpD.eq_12, cmpD.eq_13, ixD.eq_1, ixD.eq_2, ixD.eq_3, ixD.eq_4, ixD.eq_5, biD.eq_1, biD.eq_2, biD.eq_3, biD.eq_4, biD.eq_5, biD.eq_6, biD.eq_7, biD.eq_8, biD.eq_9, biD.eq_10, biD.eq_11, biD.eq_12, biD.eq_13, biD.eq_14, biD.eq_15, biD.eq_16, biD.eq_17, biD.eq_18, biD.eq_19, biD.eq_20, biD.eq_21, biD.eq_22, biD.eq_23, slD.eq_1, slD.eq_2, slD.eq_3, negD.eq_1, isi_int_int, isi_int_bool, isi_str_str, isi_tup_tup, notBos, asInt, asStr, asDic, rOpt, optOk, callD, isBo, bindTg, bindSlots, wipeD, ownL, ownK, ownAt, appD, extD.eq_1, putD.eq_1, putD.eq_2, setOwn, freeze, itemsD.eq_1, itemsD.eq_2, itemsD.eq_3, rng1D.eq_1, rng2D.eq_1, small62, Int.toNat_natCast, turnF, turnL, cast0, cast1, cast2, cast3, cast4, decide_true, decide_false,  freeze, app_len, rep_len,  inD.eq_1, inD.eq_2, inD.eq_3, tyD, MP.isNon, optCons, grd_T, slots_cons, slots_nil, immut, immuts, Option.map_some, Option.map_none, Option.getD_some, Option.getD_none, Option.bind_some, List.getElem?_cons_zero, List.getElem?_cons_succ, List.set_cons_zero, List.set_cons_succ, List.map_cons, List.map_nil, List.any_cons, List.any_nil, List.length_cons, List.length_nil, Nat.reduceAdd, Nat.reduceSub, List.replicate_succ, List.replicate_zero, List.cons_append, List.nil_append, Bool.or_false, Bool.false_and, Bool.and_false, Bool.false_eq_true, if_false, if_true, reduceIte, Bool.not_true, Bool.not_false, ne_eq, not_false_eq_true, and_true, true_and, and_self, Int.reduceEq, Int.reduceNe, not_true_eq_false, Int.reduceToNat, Int.reducePow, Int.reduceMul, Int.reduceAdd, Int.reduceSub, Int.reduceNeg, Nat.reduceLT, okD_int, okD_non, okD_bl, eqD_int, cmp_eqI, cmp_neI, at_0, at_1, at_2, at_3, at_4, cut_1, k_is_is, k_is_nought, k_is_input, k_is_power, k_is_less, k_is_plus, k_is_minus, k_is_times, k_is_over, ki_is, k_nought_is, k_nought_nought, k_nought_input, k_nought_power, k_nought_less, k_nought_plus, k_nought_minus, k_nought_times, k_nought_over, ki_nought, k_input_is, k_input_nought, k_input_input, k_input_power, k_input_less, k_input_plus, k_input_minus, k_input_times, k_input_over, ki_input, k_power_is, k_power_nought, k_power_input, k_power_power, k_power_less, k_power_plus, k_power_minus, k_power_times, k_power_over, ki_power, k_less_is, k_less_nought, k_less_input, k_less_power, k_less_less, k_less_plus, k_less_minus, k_less_times, k_less_over, ki_less, ko_is, ko_nought, ko_input, ko_power, ko_less, ko_plus, ko_minus, ko_times, ko_over, ki_o, ep, Rk.d, Rk.parts, exFor, turnF, Rk.ins, ssetD, mapM_str0, rOpt, grd_pos]
    rfl
  | .input s, k + 1, h, hs => by
    show runD 3 (ir__law_inputs (m__law_inputs k)) _ = _
    unfold ir__law_inputs
    simp (disch := first | omega | (apply cmx <;> omega) | (apply dvok <;> omega) | decide | fail) only [runD, s_cons, s_nil, s_frz, s_fgt, seq_next, seq_ret, seq_err, s_ifs, if_t, if_f, s_fors, s_whl, s_asg, s_nm_fz, s_nm_fr, s_tp, s_ret, s_rse, s_put, s_app, s_ext, s_par, e_and, e_or, and_t, and_f, or_t, or_f, test_bl, e_lc, ev.eq_1, ev.eq_2, ev.eq_3, ev.eq_4, ev.eq_5, ev.eq_6, ev.eq_7, ev.eq_8, ev.eq_9, ev.eq_12, ev.eq_13, ev.eq_14, ev.eq_15, ev.eq_16, ev.eq_17, ev.eq_18, ev.eq_19, ev.eq_20, ev.eq_21, ev.eq_22, ev.eq_23, evs, evo, evIt, MP.R.bind_ok, MP.R.bind_err, notBo_fz, notBo_fr, retK_fz, retK_fr, retK_bo, noErr_ok, binD.eq_1, binD.eq_2, binD.eq_3, binD.eq_4, binD.eq_5, binD.eq_6, binD.eq_7, binD.eq_8, binD.eq_9, binD.eq_10, binD.eq_11, cmpD.eq_3, cmpD.eq_4, cmpD.eq_5, cmpD.eq_6, cmpD.eq_7, cmpD.eq_8, cmpD.eq_9, cmpD.eq_10, cmpD.eq_11, cmpD.eq_12, cmpD.eq_13, ixD.eq_1, ixD.eq_2, ixD.eq_3, ixD.eq_4, ixD.eq_5, biD.eq_1, biD.eq_2, biD.eq_3, biD.eq_4, biD.eq_5, biD.eq_6, biD.eq_7, biD.eq_8, biD.eq_9, biD.eq_10, biD.eq_11, biD.eq_12, biD.eq_13, biD.eq_14, biD.eq_15, biD.eq_16, biD.eq_17, biD.eq_18, biD.eq_19, biD.eq_20, biD.eq_21, biD.eq_22, biD.eq_23, slD.eq_1, slD.eq_2, slD.eq_3, negD.eq_1, isi_int_int, isi_int_bool, isi_str_str, isi_tup_tup, notBos, asInt, asStr, asDic, rOpt, optOk, callD, isBo, bindTg, bindSlots, wipeD, ownL, ownK, ownAt, appD, extD.eq_1, putD.eq_1, putD.eq_2, setOwn, freeze, itemsD.eq_1, itemsD.eq_2, itemsD.eq_3, rng1D.eq_1, rng2D.eq_1, small62, Int.toNat_natCast, turnF, turnL, cast0, cast1, cast2, cast3, cast4, decide_true, decide_false,  freeze, app_len, rep_len,  inD.eq_1, inD.eq_2, inD.eq_3, tyD, MP.isNon, optCons, grd_T, slots_cons, slots_nil, immut, immuts, Option.map_some, Option.map_none, Option.getD_some, Option.getD_none, Option.bind_some, List.getElem?_cons_zero, List.getElem?_cons_succ, List.set_cons_zero, List.set_cons_succ, List.map_cons, List.map_nil, List.any_cons, List.any_nil, List.length_cons, List.length_nil, Nat.reduceAdd, Nat.reduceSub, List.replicate_succ, List.replicate_zero, List.cons_append, List.nil_append, Bool.or_false, Bool.false_and, Bool.and_false, Bool.false_eq_true, if_false, if_true, reduceIte, Bool.not_true, Bool.not_false, ne_eq, not_false_eq_true, and_true, true_and, and_self, Int.reduceEq, Int.reduceNe, not_true_eq_false, Int.reduceToNat, Int.reducePow, Int.reduceMul, Int.reduceAdd, Int.reduceSub, Int.reduceNeg, Nat.reduceLT, okD_int, okD_non, okD_bl, eqD_int, cmp_eqI, cmp_neI, at_0, at_1, at_2, at_3, at_4, cut_1, k_is_is, k_is_nought, k_is_input, k_is_power, k_is_less, k_is_plus, k_is_minus, k_is_times, k_is_over, ki_is, k_nought_is, k_nought_nought, k_nought_input, k_nought_power, k_nought_less, k_nought_plus, k_nought_minus, k_nought_times, k_nought_over, ki_nought, k_input_is, k_input_nought, k_input_input, k_input_power, k_input_less, k_input_plus, k_input_minus, k_input_times, k_input_over, ki_input, k_power_is, k_power_nought, k_power_input, k_power_power, k_power_less, k_power_plus, k_power_minus, k_power_times, k_power_over, ki_power, k_less_is, k_less_nought, k_less_input, k_less_power, k_less_less, k_less_plus, k_less_minus, k_less_times, k_less_over, ki_less, ko_is, ko_nought, ko_input, ko_power, ko_less, ko_plus, ko_minus, ko_times, ko_over, ki_o, Rk.d, Rk.ins, grd_pos]
    rfl
  | .pw a n, k + 1, h, hs => by
    show runD 3 (ir__law_inputs (m__law_inputs k)) _ = _
    have ep := lparts_eq (.pw a n)
    simp only [Rk.d, Rk.parts, List.map_cons, List.map_nil] at ep
    simp only [Rk.ht] at h
    simp only [Rk.size] at hs
    have e1 := linputs_eq a k (by omega) (by omega)
    have l1 := a.ins_size
    have s1 := sinS_len a.ins
    unfold ir__law_inputs
    simp (disch := first | omega | (apply cmx <;> omega) | (apply dvok <;> omega) | decide | fail) only [runD, s_cons, s_nil, s_frz, s_fgt, seq_next, seq_ret, seq_err, s_ifs, if_t, if_f, s_fors, s_whl, s_asg, s_nm_fz, s_nm_fr, s_tp, s_ret, s_rse, s_put, s_app, s_ext, s_par, e_and, e_or, and_t, and_f, or_t, or_f, test_bl, e_lc, ev.eq_1, ev.eq_2, ev.eq_3, ev.eq_4, ev.eq_5, ev.eq_6, ev.eq_7, ev.eq_8, ev.eq_9, ev.eq_12, ev.eq_13, ev.eq_14, ev.eq_15, ev.eq_16, ev.eq_17, ev.eq_18, ev.eq_19, ev.eq_20, ev.eq_21, ev.eq_22, ev.eq_23, evs, evo, evIt, MP.R.bind_ok, MP.R.bind_err, notBo_fz, notBo_fr, retK_fz, retK_fr, retK_bo, noErr_ok, binD.eq_1, binD.eq_2, binD.eq_3, binD.eq_4, binD.eq_5, binD.eq_6, binD.eq_7, binD.eq_8, binD.eq_9, binD.eq_10, binD.eq_11, cmpD.eq_3, cmpD.eq_4, cmpD.eq_5, cmpD.eq_6, cmpD.eq_7, cmpD.eq_8, cmpD.eq_9, cmpD.eq_10, cmpD.eq_11, cmpD.eq_12, cmpD.eq_13, ixD.eq_1, ixD.eq_2, ixD.eq_3, ixD.eq_4, ixD.eq_5, biD.eq_1, biD.eq_2, biD.eq_3, biD.eq_4, biD.eq_5, biD.eq_6, biD.eq_7, biD.eq_8, biD.eq_9, biD.eq_10, biD.eq_11, biD.eq_12, biD.eq_13, biD.eq_14, biD.eq_15, biD.eq_16, biD.eq_17, biD.eq_18, biD.eq_19, biD.eq_20, biD.eq_21, biD.eq_22, biD.eq_23, slD.eq_1, slD.eq_2, slD.eq_3, negD.eq_1, isi_int_int, isi_int_bool, isi_str_str, isi_tup_tup, notBos, asInt, asStr, asDic, rOpt, optOk, callD, isBo, bindTg, bindSlots, wipeD, ownL, ownK, ownAt, appD, extD.eq_1, putD.eq_1, putD.eq_2, setOwn, freeze, itemsD.eq_1, itemsD.eq_2, itemsD.eq_3, rng1D.eq_1, rng2D.eq_1, small62, Int.toNat_natCast, turnF, turnL, cast0, cast1, cast2, cast3, cast4, decide_true, decide_false,  freeze, app_len, rep_len,  inD.eq_1, inD.eq_2, inD.eq_3, tyD, MP.isNon, optCons, grd_T, slots_cons, slots_nil, immut, immuts, Option.map_some, Option.map_none, Option.getD_some, Option.getD_none, Option.bind_some, List.getElem?_cons_zero, List.getElem?_cons_succ, List.set_cons_zero, List.set_cons_succ, List.map_cons, List.map_nil, List.any_cons, List.any_nil, List.length_cons, List.length_nil, Nat.reduceAdd, Nat.reduceSub, List.replicate_succ, List.replicate_zero, List.cons_append, List.nil_append, Bool.or_false, Bool.false_and, Bool.and_false, Bool.false_eq_true, if_false, if_true, reduceIte, Bool.not_true, Bool.not_false, ne_eq, not_false_eq_true, and_true, true_and, and_self, Int.reduceEq, Int.reduceNe, not_true_eq_false, Int.reduceToNat, Int.reducePow, Int.reduceMul, Int.reduceAdd, Int.reduceSub, Int.reduceNeg, Nat.reduceLT, okD_int, okD_non, okD_bl, eqD_int, cmp_eqI, cmp_neI, at_0, at_1, at_2, at_3, at_4, cut_1, k_is_is, k_is_nought, k_is_input, k_is_power, k_is_less, k_is_plus, k_is_minus, k_is_times, k_is_over, ki_is, k_nought_is, k_nought_nought, k_nought_input, k_nought_power, k_nought_less, k_nought_plus, k_nought_minus, k_nought_times, k_nought_over, ki_nought, k_input_is, k_input_nought, k_input_input, k_input_power, k_input_less, k_input_plus, k_input_minus, k_input_times, k_input_over, ki_input, k_power_is, k_power_nought, k_power_input, k_power_power, k_power_less, k_power_plus, k_power_minus, k_power_times, k_power_over, ki_power, k_less_is, k_less_nought, k_less_input, k_less_power, k_less_less, k_less_plus, k_less_minus, k_less_times, k_less_over, ki_less, ko_is, ko_nought, ko_input, ko_power, ko_less, ko_plus, ko_minus, ko_times, ko_over, ki_o, ep, Rk.d, Rk.parts, exFor, turnF, e1, Rk.ins, ssetD, mapM_strl, rOpt, List.length_map, List.length_append, grd_pos]
    exact congrArg (fun l => R.ok (D.lst (l.map D.str), Kd.fr)) (sinS_same (a := sinS a.ins) (b := a.ins) fun s => sinS_mem)
  | .bin o a b, k + 1, h, hs => by
    show runD 3 (ir__law_inputs (m__law_inputs k)) _ = _
    have ep := lparts_eq (.bin o a b)
    simp only [Rk.d, Rk.parts, List.map_cons, List.map_nil] at ep
    simp only [Rk.ht] at h
    simp only [Rk.size] at hs
    have e1 := linputs_eq a k (by omega) (by omega)
    have e2 := linputs_eq b k (by omega) (by omega)
    have l1 := a.ins_size
    have l2 := b.ins_size
    have s1 := sinS_len a.ins
    have s2 := sinS_len b.ins
    unfold ir__law_inputs
    simp (disch := first | omega | (apply cmx <;> omega) | (apply dvok <;> omega) | decide | fail) only [runD, s_cons, s_nil, s_frz, s_fgt, seq_next, seq_ret, seq_err, s_ifs, if_t, if_f, s_fors, s_whl, s_asg, s_nm_fz, s_nm_fr, s_tp, s_ret, s_rse, s_put, s_app, s_ext, s_par, e_and, e_or, and_t, and_f, or_t, or_f, test_bl, e_lc, ev.eq_1, ev.eq_2, ev.eq_3, ev.eq_4, ev.eq_5, ev.eq_6, ev.eq_7, ev.eq_8, ev.eq_9, ev.eq_12, ev.eq_13, ev.eq_14, ev.eq_15, ev.eq_16, ev.eq_17, ev.eq_18, ev.eq_19, ev.eq_20, ev.eq_21, ev.eq_22, ev.eq_23, evs, evo, evIt, MP.R.bind_ok, MP.R.bind_err, notBo_fz, notBo_fr, retK_fz, retK_fr, retK_bo, noErr_ok, binD.eq_1, binD.eq_2, binD.eq_3, binD.eq_4, binD.eq_5, binD.eq_6, binD.eq_7, binD.eq_8, binD.eq_9, binD.eq_10, binD.eq_11, cmpD.eq_3, cmpD.eq_4, cmpD.eq_5, cmpD.eq_6, cmpD.eq_7, cmpD.eq_8, cmpD.eq_9, cmpD.eq_10, cmpD.eq_11, cmpD.eq_12, cmpD.eq_13, ixD.eq_1, ixD.eq_2, ixD.eq_3, ixD.eq_4, ixD.eq_5, biD.eq_1, biD.eq_2, biD.eq_3, biD.eq_4, biD.eq_5, biD.eq_6, biD.eq_7, biD.eq_8, biD.eq_9, biD.eq_10, biD.eq_11, biD.eq_12, biD.eq_13, biD.eq_14, biD.eq_15, biD.eq_16, biD.eq_17, biD.eq_18, biD.eq_19, biD.eq_20, biD.eq_21, biD.eq_22, biD.eq_23, slD.eq_1, slD.eq_2, slD.eq_3, negD.eq_1, isi_int_int, isi_int_bool, isi_str_str, isi_tup_tup, notBos, asInt, asStr, asDic, rOpt, optOk, callD, isBo, bindTg, bindSlots, wipeD, ownL, ownK, ownAt, appD, extD.eq_1, putD.eq_1, putD.eq_2, setOwn, freeze, itemsD.eq_1, itemsD.eq_2, itemsD.eq_3, rng1D.eq_1, rng2D.eq_1, small62, Int.toNat_natCast, turnF, turnL, cast0, cast1, cast2, cast3, cast4, decide_true, decide_false,  freeze, app_len, rep_len,  inD.eq_1, inD.eq_2, inD.eq_3, tyD, MP.isNon, optCons, grd_T, slots_cons, slots_nil, immut, immuts, Option.map_some, Option.map_none, Option.getD_some, Option.getD_none, Option.bind_some, List.getElem?_cons_zero, List.getElem?_cons_succ, List.set_cons_zero, List.set_cons_succ, List.map_cons, List.map_nil, List.any_cons, List.any_nil, List.length_cons, List.length_nil, Nat.reduceAdd, Nat.reduceSub, List.replicate_succ, List.replicate_zero, List.cons_append, List.nil_append, Bool.or_false, Bool.false_and, Bool.and_false, Bool.false_eq_true, if_false, if_true, reduceIte, Bool.not_true, Bool.not_false, ne_eq, not_false_eq_true, and_true, true_and, and_self, Int.reduceEq, Int.reduceNe, not_true_eq_false, Int.reduceToNat, Int.reducePow, Int.reduceMul, Int.reduceAdd, Int.reduceSub, Int.reduceNeg, Nat.reduceLT, okD_int, okD_non, okD_bl, eqD_int, cmp_eqI, cmp_neI, at_0, at_1, at_2, at_3, at_4, cut_1, k_is_is, k_is_nought, k_is_input, k_is_power, k_is_less, k_is_plus, k_is_minus, k_is_times, k_is_over, ki_is, k_nought_is, k_nought_nought, k_nought_input, k_nought_power, k_nought_less, k_nought_plus, k_nought_minus, k_nought_times, k_nought_over, ki_nought, k_input_is, k_input_nought, k_input_input, k_input_power, k_input_less, k_input_plus, k_input_minus, k_input_times, k_input_over, ki_input, k_power_is, k_power_nought, k_power_input, k_power_power, k_power_less, k_power_plus, k_power_minus, k_power_times, k_power_over, ki_power, k_less_is, k_less_nought, k_less_input, k_less_power, k_less_less, k_less_plus, k_less_minus, k_less_times, k_less_over, ki_less, ko_is, ko_nought, ko_input, ko_power, ko_less, ko_plus, ko_minus, ko_times, ko_over, ki_o, ep, Rk.d, Rk.parts, exFor, turnF, e1, e2, Rk.ins, ssetD, ← List.map_append, mapM_strl, rOpt, List.length_map, List.length_append, grd_pos]
    exact congrArg (fun l => R.ok (D.lst (l.map D.str), Kd.fr)) (sinS_same (a := sinS a.ins ++ sinS b.ins) (b := a.ins ++ b.ins) fun s => by simp only [List.mem_append, sinS_mem])
  | .less a b c e, k + 1, h, hs => by
    show runD 3 (ir__law_inputs (m__law_inputs k)) _ = _
    have ep := lparts_eq (.less a b c e)
    simp only [Rk.d, Rk.parts, List.map_cons, List.map_nil] at ep
    simp only [Rk.ht] at h
    simp only [Rk.size] at hs
    have e1 := linputs_eq a k (by omega) (by omega)
    have e2 := linputs_eq b k (by omega) (by omega)
    have e3 := linputs_eq c k (by omega) (by omega)
    have e4 := linputs_eq e k (by omega) (by omega)
    have l1 := a.ins_size
    have l2 := b.ins_size
    have l3 := c.ins_size
    have l4 := e.ins_size
    have s1 := sinS_len a.ins
    have s2 := sinS_len b.ins
    have s3 := sinS_len c.ins
    have s4 := sinS_len e.ins
    unfold ir__law_inputs
    simp (disch := first | omega | (apply cmx <;> omega) | (apply dvok <;> omega) | decide | fail) only [runD, s_cons, s_nil, s_frz, s_fgt, seq_next, seq_ret, seq_err, s_ifs, if_t, if_f, s_fors, s_whl, s_asg, s_nm_fz, s_nm_fr, s_tp, s_ret, s_rse, s_put, s_app, s_ext, s_par, e_and, e_or, and_t, and_f, or_t, or_f, test_bl, e_lc, ev.eq_1, ev.eq_2, ev.eq_3, ev.eq_4, ev.eq_5, ev.eq_6, ev.eq_7, ev.eq_8, ev.eq_9, ev.eq_12, ev.eq_13, ev.eq_14, ev.eq_15, ev.eq_16, ev.eq_17, ev.eq_18, ev.eq_19, ev.eq_20, ev.eq_21, ev.eq_22, ev.eq_23, evs, evo, evIt, MP.R.bind_ok, MP.R.bind_err, notBo_fz, notBo_fr, retK_fz, retK_fr, retK_bo, noErr_ok, binD.eq_1, binD.eq_2, binD.eq_3, binD.eq_4, binD.eq_5, binD.eq_6, binD.eq_7, binD.eq_8, binD.eq_9, binD.eq_10, binD.eq_11, cmpD.eq_3, cmpD.eq_4, cmpD.eq_5, cmpD.eq_6, cmpD.eq_7, cmpD.eq_8, cmpD.eq_9, cmpD.eq_10, cmpD.eq_11, cmpD.eq_12, cmpD.eq_13, ixD.eq_1, ixD.eq_2, ixD.eq_3, ixD.eq_4, ixD.eq_5, biD.eq_1, biD.eq_2, biD.eq_3, biD.eq_4, biD.eq_5, biD.eq_6, biD.eq_7, biD.eq_8, biD.eq_9, biD.eq_10, biD.eq_11, biD.eq_12, biD.eq_13, biD.eq_14, biD.eq_15, biD.eq_16, biD.eq_17, biD.eq_18, biD.eq_19, biD.eq_20, biD.eq_21, biD.eq_22, biD.eq_23, slD.eq_1, slD.eq_2, slD.eq_3, negD.eq_1, isi_int_int, isi_int_bool, isi_str_str, isi_tup_tup, notBos, asInt, asStr, asDic, rOpt, optOk, callD, isBo, bindTg, bindSlots, wipeD, ownL, ownK, ownAt, appD, extD.eq_1, putD.eq_1, putD.eq_2, setOwn, freeze, itemsD.eq_1, itemsD.eq_2, itemsD.eq_3, rng1D.eq_1, rng2D.eq_1, small62, Int.toNat_natCast, turnF, turnL, cast0, cast1, cast2, cast3, cast4, decide_true, decide_false,  freeze, app_len, rep_len,  inD.eq_1, inD.eq_2, inD.eq_3, tyD, MP.isNon, optCons, grd_T, slots_cons, slots_nil, immut, immuts, Option.map_some, Option.map_none, Option.getD_some, Option.getD_none, Option.bind_some, List.getElem?_cons_zero, List.getElem?_cons_succ, List.set_cons_zero, List.set_cons_succ, List.map_cons, List.map_nil, List.any_cons, List.any_nil, List.length_cons, List.length_nil, Nat.reduceAdd, Nat.reduceSub, List.replicate_succ, List.replicate_zero, List.cons_append, List.nil_append, Bool.or_false, Bool.false_and, Bool.and_false, Bool.false_eq_true, if_false, if_true, reduceIte, Bool.not_true, Bool.not_false, ne_eq, not_false_eq_true, and_true, true_and, and_self, Int.reduceEq, Int.reduceNe, not_true_eq_false, Int.reduceToNat, Int.reducePow, Int.reduceMul, Int.reduceAdd, Int.reduceSub, Int.reduceNeg, Nat.reduceLT, okD_int, okD_non, okD_bl, eqD_int, cmp_eqI, cmp_neI, at_0, at_1, at_2, at_3, at_4, cut_1, k_is_is, k_is_nought, k_is_input, k_is_power, k_is_less, k_is_plus, k_is_minus, k_is_times, k_is_over, ki_is, k_nought_is, k_nought_nought, k_nought_input, k_nought_power, k_nought_less, k_nought_plus, k_nought_minus, k_nought_times, k_nought_over, ki_nought, k_input_is, k_input_nought, k_input_input, k_input_power, k_input_less, k_input_plus, k_input_minus, k_input_times, k_input_over, ki_input, k_power_is, k_power_nought, k_power_input, k_power_power, k_power_less, k_power_plus, k_power_minus, k_power_times, k_power_over, ki_power, k_less_is, k_less_nought, k_less_input, k_less_power, k_less_less, k_less_plus, k_less_minus, k_less_times, k_less_over, ki_less, ko_is, ko_nought, ko_input, ko_power, ko_less, ko_plus, ko_minus, ko_times, ko_over, ki_o, ep, Rk.d, Rk.parts, exFor, turnF, e1, e2, e3, e4, Rk.ins, ssetD, ← List.map_append, mapM_strl, rOpt, List.length_map, List.length_append, grd_pos]
    exact congrArg (fun l => R.ok (D.lst (l.map D.str), Kd.fr)) (sinS_same (a := sinS a.ins ++ sinS b.ins ++ sinS c.ins ++ sinS e.ins) (b := a.ins ++ b.ins ++ c.ins ++ e.ins) fun s => by simp only [List.mem_append, sinS_mem])
end MPk07

namespace MPk07
open PySem PySem.Spec PyProof.Rows L2 MP
theorem made_eq {ks : Ms} (h : ks.length ≤ 1000000) : m_made [.dic (dkI ks)] = .ok (msD (madeM ks), .fz) := by
  unfold m_made ir_made
  simp (disch := first | omega | (apply cmx <;> omega) | (apply dvok <;> omega) | decide | fail) only [runD, s_cons, s_nil, s_frz, s_fgt, seq_next, seq_ret, seq_err, s_ifs, if_t, if_f, s_fors, s_whl, s_asg, s_nm_fz, s_nm_fr, s_tp, s_ret, s_rse, s_put, s_app, s_ext, s_par, e_and, e_or, and_t, and_f, or_t, or_f, test_bl, e_lc, ev.eq_1, ev.eq_2, ev.eq_3, ev.eq_4, ev.eq_5, ev.eq_6, ev.eq_7, ev.eq_8, ev.eq_9, ev.eq_12, ev.eq_13, ev.eq_14, ev.eq_15, ev.eq_16, ev.eq_17, ev.eq_18, ev.eq_19, ev.eq_20, ev.eq_21, ev.eq_22, ev.eq_23, evs, evo, evIt, MP.R.bind_ok, MP.R.bind_err, notBo_fz, notBo_fr, retK_fz, retK_fr, retK_bo, noErr_ok, binD.eq_1, binD.eq_2, binD.eq_3, binD.eq_4, binD.eq_5, binD.eq_6, binD.eq_7, binD.eq_8, binD.eq_9, binD.eq_10, binD.eq_11, cmpD.eq_1, cmpD.eq_2, cmpD.eq_3, cmpD.eq_4, cmpD.eq_5, cmpD.eq_6, cmpD.eq_7, cmpD.eq_8, cmpD.eq_9, cmpD.eq_10, cmpD.eq_11, cmpD.eq_12, cmpD.eq_13, ixD.eq_1, ixD.eq_2, ixD.eq_3, ixD.eq_4, ixD.eq_5, biD.eq_1, biD.eq_2, biD.eq_3, biD.eq_4, biD.eq_5, biD.eq_6, biD.eq_7, biD.eq_8, biD.eq_9, biD.eq_10, biD.eq_11, biD.eq_12, biD.eq_13, biD.eq_14, biD.eq_15, biD.eq_16, biD.eq_17, biD.eq_18, biD.eq_19, biD.eq_20, biD.eq_21, biD.eq_22, biD.eq_23, slD.eq_1, slD.eq_2, slD.eq_3, negD.eq_1, isi_int_int, isi_int_bool, isi_str_str, isi_tup_tup, notBos, asInt, asStr, asDic, rOpt, optOk, callD, isBo, bindTg, bindSlots, wipeD, ownL, ownK, ownAt, appD, extD.eq_1, putD.eq_1, putD.eq_2, setOwn, freeze, itemsD.eq_1, itemsD.eq_2, itemsD.eq_3, rng1D.eq_1, rng2D.eq_1, small62, Int.toNat_natCast, turnF, turnL, cast0, cast1, cast2, cast3, cast4, decide_true, decide_false,  freeze, app_len, rep_len,  inD.eq_1, inD.eq_2, inD.eq_3, tyD, MP.isNon, optCons, grd_T, slots_cons, slots_nil, immut, immuts, Option.map_some, Option.map_none, Option.getD_some, Option.getD_none, Option.bind_some, List.getElem?_cons_zero, List.getElem?_cons_succ, List.set_cons_zero, List.set_cons_succ, List.map_cons, List.map_nil, List.any_cons, List.any_nil, List.length_cons, List.length_nil, Nat.reduceAdd, Nat.reduceSub, List.replicate_succ, List.replicate_zero, List.cons_append, List.nil_append, Bool.or_false, Bool.false_and, Bool.and_false, Bool.false_eq_true, if_false, if_true, reduceIte, Bool.not_true, Bool.not_false, ne_eq, not_false_eq_true, and_true, true_and, and_self, Int.reduceEq, Int.reduceNe, not_true_eq_false, Int.reduceToNat, Int.reducePow, Int.reduceMul, Int.reduceAdd, Int.reduceSub, Int.reduceNeg, Nat.reduceLT, okD_int, okD_non, okD_bl, eqD_int, grd_pos, List.length_map, sortS_length, dkI_keys, h]
  generalize hX : evItems _ _ = X
  rw [items_map hX (madeF ks) ?_, madeF_all]
  · simp (disch := first | omega | (apply cmx <;> omega) | (apply dvok <;> omega) | decide | fail) only [runD, s_cons, s_nil, s_frz, s_fgt, seq_next, seq_ret, seq_err, s_ifs, if_t, if_f, s_fors, s_whl, s_asg, s_nm_fz, s_nm_fr, s_tp, s_ret, s_rse, s_put, s_app, s_ext, s_par, e_and, e_or, and_t, and_f, or_t, or_f, test_bl, e_lc, ev.eq_1, ev.eq_2, ev.eq_3, ev.eq_4, ev.eq_5, ev.eq_6, ev.eq_7, ev.eq_8, ev.eq_9, ev.eq_12, ev.eq_13, ev.eq_14, ev.eq_15, ev.eq_16, ev.eq_17, ev.eq_18, ev.eq_19, ev.eq_20, ev.eq_21, ev.eq_22, ev.eq_23, evs, evo, evIt, MP.R.bind_ok, MP.R.bind_err, notBo_fz, notBo_fr, retK_fz, retK_fr, retK_bo, noErr_ok, binD.eq_1, binD.eq_2, binD.eq_3, binD.eq_4, binD.eq_5, binD.eq_6, binD.eq_7, binD.eq_8, binD.eq_9, binD.eq_10, binD.eq_11, cmpD.eq_1, cmpD.eq_2, cmpD.eq_3, cmpD.eq_4, cmpD.eq_5, cmpD.eq_6, cmpD.eq_7, cmpD.eq_8, cmpD.eq_9, cmpD.eq_10, cmpD.eq_11, cmpD.eq_12, cmpD.eq_13, ixD.eq_1, ixD.eq_2, ixD.eq_3, ixD.eq_4, ixD.eq_5, biD.eq_1, biD.eq_2, biD.eq_3, biD.eq_4, biD.eq_5, biD.eq_6, biD.eq_7, biD.eq_8, biD.eq_9, biD.eq_10, biD.eq_11, biD.eq_12, biD.eq_13, biD.eq_14, biD.eq_15, biD.eq_16, biD.eq_17, biD.eq_18, biD.eq_19, biD.eq_20, biD.eq_21, biD.eq_22, biD.eq_23, slD.eq_1, slD.eq_2, slD.eq_3, negD.eq_1, isi_int_int, isi_int_bool, isi_str_str, isi_tup_tup, notBos, asInt, asStr, asDic, rOpt, optOk, callD, isBo, bindTg, bindSlots, wipeD, ownL, ownK, ownAt, appD, extD.eq_1, putD.eq_1, putD.eq_2, setOwn, freeze, itemsD.eq_1, itemsD.eq_2, itemsD.eq_3, rng1D.eq_1, rng2D.eq_1, small62, Int.toNat_natCast, turnF, turnL, cast0, cast1, cast2, cast3, cast4, decide_true, decide_false,  freeze, app_len, rep_len,  inD.eq_1, inD.eq_2, inD.eq_3, tyD, MP.isNon, optCons, grd_T, slots_cons, slots_nil, immut, immuts, Option.map_some, Option.map_none, Option.getD_some, Option.getD_none, Option.bind_some, List.getElem?_cons_zero, List.getElem?_cons_succ, List.set_cons_zero, List.set_cons_succ, List.map_cons, List.map_nil, List.any_cons, List.any_nil, List.length_cons, List.length_nil, Nat.reduceAdd, Nat.reduceSub, List.replicate_succ, List.replicate_zero, List.cons_append, List.nil_append, Bool.or_false, Bool.false_and, Bool.and_false, Bool.false_eq_true, if_false, if_true, reduceIte, Bool.not_true, Bool.not_false, ne_eq, not_false_eq_true, and_true, true_and, and_self, Int.reduceEq, Int.reduceNe, not_true_eq_false, Int.reduceToNat, Int.reducePow, Int.reduceMul, Int.reduceAdd, Int.reduceSub, Int.reduceNeg, Nat.reduceLT, okD_int, okD_non, okD_bl, eqD_int, grd_pos]
    rfl
  · clear hX
    intro x hx
    obtain ⟨s, hs, rfl⟩ := List.mem_map.mp hx
    have hd := dget_in ((sortS_perm _).mem_iff.mp hs)
    by_cases z : total ks s = 0
    · have z' : (total ks s = 0) = True := eq_true z
      simp (disch := first | omega | (apply cmx <;> omega) | (apply dvok <;> omega) | decide | fail) only [runD, s_cons, s_nil, s_frz, s_fgt, seq_next, seq_ret, seq_err, s_ifs, if_t, if_f, s_fors, s_whl, s_asg, s_nm_fz, s_nm_fr, s_tp, s_ret, s_rse, s_put, s_app, s_ext, s_par, e_and, e_or, and_t, and_f, or_t, or_f, test_bl, e_lc, ev.eq_1, ev.eq_2, ev.eq_3, ev.eq_4, ev.eq_5, ev.eq_6, ev.eq_7, ev.eq_8, ev.eq_9, ev.eq_12, ev.eq_13, ev.eq_14, ev.eq_15, ev.eq_16, ev.eq_17, ev.eq_18, ev.eq_19, ev.eq_20, ev.eq_21, ev.eq_22, ev.eq_23, evs, evo, evIt, MP.R.bind_ok, MP.R.bind_err, notBo_fz, notBo_fr, retK_fz, retK_fr, retK_bo, noErr_ok, binD.eq_1, binD.eq_2, binD.eq_3, binD.eq_4, binD.eq_5, binD.eq_6, binD.eq_7, binD.eq_8, binD.eq_9, binD.eq_10, binD.eq_11, cmpD.eq_1, cmpD.eq_2, cmpD.eq_3, cmpD.eq_4, cmpD.eq_5, cmpD.eq_6, cmpD.eq_7, cmpD.eq_8, cmpD.eq_9, cmpD.eq_10, cmpD.eq_11, cmpD.eq_12, cmpD.eq_13, ixD.eq_1, ixD.eq_2, ixD.eq_3, ixD.eq_4, ixD.eq_5, biD.eq_1, biD.eq_2, biD.eq_3, biD.eq_4, biD.eq_5, biD.eq_6, biD.eq_7, biD.eq_8, biD.eq_9, biD.eq_10, biD.eq_11, biD.eq_12, biD.eq_13, biD.eq_14, biD.eq_15, biD.eq_16, biD.eq_17, biD.eq_18, biD.eq_19, biD.eq_20, biD.eq_21, biD.eq_22, biD.eq_23, slD.eq_1, slD.eq_2, slD.eq_3, negD.eq_1, isi_int_int, isi_int_bool, isi_str_str, isi_tup_tup, notBos, asInt, asStr, asDic, rOpt, optOk, callD, isBo, bindTg, bindSlots, wipeD, ownL, ownK, ownAt, appD, extD.eq_1, putD.eq_1, putD.eq_2, setOwn, freeze, itemsD.eq_1, itemsD.eq_2, itemsD.eq_3, rng1D.eq_1, rng2D.eq_1, small62, Int.toNat_natCast, turnF, turnL, cast0, cast1, cast2, cast3, cast4, decide_true, decide_false,  freeze, app_len, rep_len,  inD.eq_1, inD.eq_2, inD.eq_3, tyD, MP.isNon, optCons, grd_T, slots_cons, slots_nil, immut, immuts, Option.map_some, Option.map_none, Option.getD_some, Option.getD_none, Option.bind_some, List.getElem?_cons_zero, List.getElem?_cons_succ, List.set_cons_zero, List.set_cons_succ, List.map_cons, List.map_nil, List.any_cons, List.any_nil, List.length_cons, List.length_nil, Nat.reduceAdd, Nat.reduceSub, List.replicate_succ, List.replicate_zero, List.cons_append, List.nil_append, Bool.or_false, Bool.false_and, Bool.and_false, Bool.false_eq_true, if_false, if_true, reduceIte, Bool.not_true, Bool.not_false, ne_eq, not_false_eq_true, and_true, true_and, and_self, Int.reduceEq, Int.reduceNe, not_true_eq_false, Int.reduceToNat, Int.reducePow, Int.reduceMul, Int.reduceAdd, Int.reduceSub, Int.reduceNeg, Nat.reduceLT, okD_int, okD_non, okD_bl, eqD_int, grd_pos, hd, z', decide_true, madeF]
    · have z' : (total ks s = 0) = False := eq_false z
      simp (disch := first | omega | (apply cmx <;> omega) | (apply dvok <;> omega) | decide | fail) only [runD, s_cons, s_nil, s_frz, s_fgt, seq_next, seq_ret, seq_err, s_ifs, if_t, if_f, s_fors, s_whl, s_asg, s_nm_fz, s_nm_fr, s_tp, s_ret, s_rse, s_put, s_app, s_ext, s_par, e_and, e_or, and_t, and_f, or_t, or_f, test_bl, e_lc, ev.eq_1, ev.eq_2, ev.eq_3, ev.eq_4, ev.eq_5, ev.eq_6, ev.eq_7, ev.eq_8, ev.eq_9, ev.eq_12, ev.eq_13, ev.eq_14, ev.eq_15, ev.eq_16, ev.eq_17, ev.eq_18, ev.eq_19, ev.eq_20, ev.eq_21, ev.eq_22, ev.eq_23, evs, evo, evIt, MP.R.bind_ok, MP.R.bind_err, notBo_fz, notBo_fr, retK_fz, retK_fr, retK_bo, noErr_ok, binD.eq_1, binD.eq_2, binD.eq_3, binD.eq_4, binD.eq_5, binD.eq_6, binD.eq_7, binD.eq_8, binD.eq_9, binD.eq_10, binD.eq_11, cmpD.eq_1, cmpD.eq_2, cmpD.eq_3, cmpD.eq_4, cmpD.eq_5, cmpD.eq_6, cmpD.eq_7, cmpD.eq_8, cmpD.eq_9, cmpD.eq_10, cmpD.eq_11, cmpD.eq_12, cmpD.eq_13, ixD.eq_1, ixD.eq_2, ixD.eq_3, ixD.eq_4, ixD.eq_5, biD.eq_1, biD.eq_2, biD.eq_3, biD.eq_4, biD.eq_5, biD.eq_6, biD.eq_7, biD.eq_8, biD.eq_9, biD.eq_10, biD.eq_11, biD.eq_12, biD.eq_13, biD.eq_14, biD.eq_15, biD.eq_16, biD.eq_17, biD.eq_18, biD.eq_19, biD.eq_20, biD.eq_21, biD.eq_22, biD.eq_23, slD.eq_1, slD.eq_2, slD.eq_3, negD.eq_1, isi_int_int, isi_int_bool, isi_str_str, isi_tup_tup, notBos, asInt, asStr, asDic, rOpt, optOk, callD, isBo, bindTg, bindSlots, wipeD, ownL, ownK, ownAt, appD, extD.eq_1, putD.eq_1, putD.eq_2, setOwn, freeze, itemsD.eq_1, itemsD.eq_2, itemsD.eq_3, rng1D.eq_1, rng2D.eq_1, small62, Int.toNat_natCast, turnF, turnL, cast0, cast1, cast2, cast3, cast4, decide_true, decide_false,  freeze, app_len, rep_len,  inD.eq_1, inD.eq_2, inD.eq_3, tyD, MP.isNon, optCons, grd_T, slots_cons, slots_nil, immut, immuts, Option.map_some, Option.map_none, Option.getD_some, Option.getD_none, Option.bind_some, List.getElem?_cons_zero, List.getElem?_cons_succ, List.set_cons_zero, List.set_cons_succ, List.map_cons, List.map_nil, List.any_cons, List.any_nil, List.length_cons, List.length_nil, Nat.reduceAdd, Nat.reduceSub, List.replicate_succ, List.replicate_zero, List.cons_append, List.nil_append, Bool.or_false, Bool.false_and, Bool.and_false, Bool.false_eq_true, if_false, if_true, reduceIte, Bool.not_true, Bool.not_false, ne_eq, not_false_eq_true, and_true, true_and, and_self, Int.reduceEq, Int.reduceNe, not_true_eq_false, Int.reduceToNat, Int.reducePow, Int.reduceMul, Int.reduceAdd, Int.reduceSub, Int.reduceNeg, Nat.reduceLT, okD_int, okD_non, okD_bl, eqD_int, grd_pos, hd, z', decide_false, madeF]
      rfl
theorem times_eq {one other : Ms} (n1 : (one.map (·.1)).Nodup) (l1 : one.length ≤ 100000) (l2 : other.length ≤ 100000) : m_times [msD one, msD other] = .ok (msD (madeM (addM one other)), .fz) := by
  have dl := dkI_len one
  unfold m_times ir_times msD
  simp (disch := first | omega | (apply cmx <;> omega) | (apply dvok <;> omega) | decide | fail) only [runD, s_cons, s_nil, s_frz, s_fgt, seq_next, seq_ret, seq_err, s_ifs, if_t, if_f, s_fors, s_whl, s_asg, s_nm_fz, s_nm_fr, s_tp, s_ret, s_rse, s_put, s_app, s_ext, s_par, e_and, e_or, and_t, and_f, or_t, or_f, test_bl, e_lc, ev.eq_1, ev.eq_2, ev.eq_3, ev.eq_4, ev.eq_5, ev.eq_6, ev.eq_7, ev.eq_8, ev.eq_9, ev.eq_12, ev.eq_13, ev.eq_14, ev.eq_15, ev.eq_16, ev.eq_17, ev.eq_18, ev.eq_19, ev.eq_20, ev.eq_21, ev.eq_22, ev.eq_23, evs, evo, evIt, MP.R.bind_ok, MP.R.bind_err, notBo_fz, notBo_fr, retK_fz, retK_fr, retK_bo, noErr_ok, binD.eq_1, binD.eq_2, binD.eq_3, binD.eq_4, binD.eq_5, binD.eq_6, binD.eq_7, binD.eq_8, binD.eq_9, binD.eq_10, binD.eq_11, cmpD.eq_1, cmpD.eq_2, cmpD.eq_3, cmpD.eq_4, cmpD.eq_5, cmpD.eq_6, cmpD.eq_7, cmpD.eq_8, cmpD.eq_9, cmpD.eq_10, cmpD.eq_11, cmpD.eq_12, cmpD.eq_13, ixD.eq_1, ixD.eq_2, ixD.eq_3, ixD.eq_4, ixD.eq_5, biD.eq_1, biD.eq_2, biD.eq_3, biD.eq_4, biD.eq_5, biD.eq_6, biD.eq_7, biD.eq_8, biD.eq_9, biD.eq_10, biD.eq_11, biD.eq_12, biD.eq_13, biD.eq_14, biD.eq_15, biD.eq_16, biD.eq_17, biD.eq_18, biD.eq_19, biD.eq_20, biD.eq_21, biD.eq_22, biD.eq_23, slD.eq_1, slD.eq_2, slD.eq_3, negD.eq_1, isi_int_int, isi_int_bool, isi_str_str, isi_tup_tup, notBos, asInt, asStr, asDic, rOpt, optOk, callD, isBo, bindTg, bindSlots, wipeD, ownL, ownK, ownAt, appD, extD.eq_1, putD.eq_1, putD.eq_2, setOwn, freeze, itemsD.eq_1, itemsD.eq_2, itemsD.eq_3, rng1D.eq_1, rng2D.eq_1, small62, Int.toNat_natCast, turnF, turnL, cast0, cast1, cast2, cast3, cast4, decide_true, decide_false,  freeze, app_len, rep_len,  inD.eq_1, inD.eq_2, inD.eq_3, tyD, MP.isNon, optCons, grd_T, slots_cons, slots_nil, immut, immuts, Option.map_some, Option.map_none, Option.getD_some, Option.getD_none, Option.bind_some, List.getElem?_cons_zero, List.getElem?_cons_succ, List.set_cons_zero, List.set_cons_succ, List.map_cons, List.map_nil, List.any_cons, List.any_nil, List.length_cons, List.length_nil, Nat.reduceAdd, Nat.reduceSub, List.replicate_succ, List.replicate_zero, List.cons_append, List.nil_append, Bool.or_false, Bool.false_and, Bool.and_false, Bool.false_eq_true, if_false, if_true, reduceIte, Bool.not_true, Bool.not_false, ne_eq, not_false_eq_true, and_true, true_and, and_self, Int.reduceEq, Int.reduceNe, not_true_eq_false, Int.reduceToNat, Int.reducePow, Int.reduceMul, Int.reduceAdd, Int.reduceSub, Int.reduceNeg, Nat.reduceLT, okD_int, okD_non, okD_bl, eqD_int, grd_pos, pairs_ms, dicOf_ms n1, dl]
  generalize hX : exFor _ _ _ _ = X
  refine for_inv hX (fun xs σ => ∃ (acc rs : Ms), xs = rs.map mpD ∧ σ = [some (.tup (one.map mpD), false), some (.tup (other.map mpD), false), some (.dic (dkI acc), true), none, none] ∧ (acc.map (·.1)).Nodup ∧ addM acc rs = addM one other ∧ acc.length + rs.length ≤ 200000)
    ⟨one, other, rfl, rfl, n1, rfl, by omega⟩ ?step ?rest
  case step =>
    clear hX
    rintro x xs σ ⟨acc, rs, e, rfl, hn, ht, hl⟩
    cases rs with
    | nil => cases e
    | cons p rs =>
      rw [List.map_cons] at e
      cases e
      rw [List.length_cons] at hl
      have dl := dkI_len acc
      have hp := fun s i => dput_dkI (ks := acc) s i hn
      unfold mpD
      simp (disch := first | omega | (apply cmx <;> omega) | (apply dvok <;> omega) | decide | fail) only [runD, s_cons, s_nil, s_frz, s_fgt, seq_next, seq_ret, seq_err, s_ifs, if_t, if_f, s_fors, s_whl, s_asg, s_nm_fz, s_nm_fr, s_tp, s_ret, s_rse, s_put, s_app, s_ext, s_par, e_and, e_or, and_t, and_f, or_t, or_f, test_bl, e_lc, ev.eq_1, ev.eq_2, ev.eq_3, ev.eq_4, ev.eq_5, ev.eq_6, ev.eq_7, ev.eq_8, ev.eq_9, ev.eq_12, ev.eq_13, ev.eq_14, ev.eq_15, ev.eq_16, ev.eq_17, ev.eq_18, ev.eq_19, ev.eq_20, ev.eq_21, ev.eq_22, ev.eq_23, evs, evo, evIt, MP.R.bind_ok, MP.R.bind_err, notBo_fz, notBo_fr, retK_fz, retK_fr, retK_bo, noErr_ok, binD.eq_1, binD.eq_2, binD.eq_3, binD.eq_4, binD.eq_5, binD.eq_6, binD.eq_7, binD.eq_8, binD.eq_9, binD.eq_10, binD.eq_11, cmpD.eq_1, cmpD.eq_2, cmpD.eq_3, cmpD.eq_4, cmpD.eq_5, cmpD.eq_6, cmpD.eq_7, cmpD.eq_8, cmpD.eq_9, cmpD.eq_10, cmpD.eq_11, cmpD.eq_12, cmpD.eq_13, ixD.eq_1, ixD.eq_2, ixD.eq_3, ixD.eq_4, ixD.eq_5, biD.eq_1, biD.eq_2, biD.eq_3, biD.eq_4, biD.eq_5, biD.eq_6, biD.eq_7, biD.eq_8, biD.eq_9, biD.eq_10, biD.eq_11, biD.eq_12, biD.eq_13, biD.eq_14, biD.eq_15, biD.eq_16, biD.eq_17, biD.eq_18, biD.eq_19, biD.eq_20, biD.eq_21, biD.eq_22, biD.eq_23, slD.eq_1, slD.eq_2, slD.eq_3, negD.eq_1, isi_int_int, isi_int_bool, isi_str_str, isi_tup_tup, notBos, asInt, asStr, asDic, rOpt, optOk, callD, isBo, bindTg, bindSlots, wipeD, ownL, ownK, ownAt, appD, extD.eq_1, putD.eq_1, putD.eq_2, setOwn, freeze, itemsD.eq_1, itemsD.eq_2, itemsD.eq_3, rng1D.eq_1, rng2D.eq_1, small62, Int.toNat_natCast, turnF, turnL, cast0, cast1, cast2, cast3, cast4, decide_true, decide_false,  freeze, app_len, rep_len,  inD.eq_1, inD.eq_2, inD.eq_3, tyD, MP.isNon, optCons, grd_T, slots_cons, slots_nil, immut, immuts, Option.map_some, Option.map_none, Option.getD_some, Option.getD_none, Option.bind_some, List.getElem?_cons_zero, List.getElem?_cons_succ, List.set_cons_zero, List.set_cons_succ, List.map_cons, List.map_nil, List.any_cons, List.any_nil, List.length_cons, List.length_nil, Nat.reduceAdd, Nat.reduceSub, List.replicate_succ, List.replicate_zero, List.cons_append, List.nil_append, Bool.or_false, Bool.false_and, Bool.and_false, Bool.false_eq_true, if_false, if_true, reduceIte, Bool.not_true, Bool.not_false, ne_eq, not_false_eq_true, and_true, true_and, and_self, Int.reduceEq, Int.reduceNe, not_true_eq_false, Int.reduceToNat, Int.reducePow, Int.reduceMul, Int.reduceAdd, Int.reduceSub, Int.reduceNeg, Nat.reduceLT, okD_int, okD_non, okD_bl, eqD_int, grd_pos, getd_dkI, dl, hp]
      refine ⟨_, rfl, iput acc p.1 (total acc p.1 + p.2), rs, rfl, rfl, iput_nodup _ _ hn, ht, ?_⟩
      have := iput_len acc p.1 (total acc p.1 + p.2)
      omega
  case rest =>
    rintro σ' ⟨acc, rs, e, rfl, hn, ht, hl⟩ rfl
    have er : rs = [] := List.map_eq_nil_iff.mp e.symm
    subst er
    have ht : acc = addM one other := ht
    subst ht
    simp (disch := first | omega | (apply cmx <;> omega) | (apply dvok <;> omega) | decide | fail) only [runD, s_cons, s_nil, s_frz, s_fgt, seq_next, seq_ret, seq_err, s_ifs, if_t, if_f, s_fors, s_whl, s_asg, s_nm_fz, s_nm_fr, s_tp, s_ret, s_rse, s_put, s_app, s_ext, s_par, e_and, e_or, and_t, and_f, or_t, or_f, test_bl, e_lc, ev.eq_1, ev.eq_2, ev.eq_3, ev.eq_4, ev.eq_5, ev.eq_6, ev.eq_7, ev.eq_8, ev.eq_9, ev.eq_12, ev.eq_13, ev.eq_14, ev.eq_15, ev.eq_16, ev.eq_17, ev.eq_18, ev.eq_19, ev.eq_20, ev.eq_21, ev.eq_22, ev.eq_23, evs, evo, evIt, MP.R.bind_ok, MP.R.bind_err, notBo_fz, notBo_fr, retK_fz, retK_fr, retK_bo, noErr_ok, binD.eq_1, binD.eq_2, binD.eq_3, binD.eq_4, binD.eq_5, binD.eq_6, binD.eq_7, binD.eq_8, binD.eq_9, binD.eq_10, binD.eq_11, cmpD.eq_1, cmpD.eq_2, cmpD.eq_3, cmpD.eq_4, cmpD.eq_5, cmpD.eq_6, cmpD.eq_7, cmpD.eq_8, cmpD.eq_9, cmpD.eq_10, cmpD.eq_11, cmpD.eq_12, cmpD.eq_13, ixD.eq_1, ixD.eq_2, ixD.eq_3, ixD.eq_4, ixD.eq_5, biD.eq_1, biD.eq_2, biD.eq_3, biD.eq_4, biD.eq_5, biD.eq_6, biD.eq_7, biD.eq_8, biD.eq_9, biD.eq_10, biD.eq_11, biD.eq_12, biD.eq_13, biD.eq_14, biD.eq_15, biD.eq_16, biD.eq_17, biD.eq_18, biD.eq_19, biD.eq_20, biD.eq_21, biD.eq_22, biD.eq_23, slD.eq_1, slD.eq_2, slD.eq_3, negD.eq_1, isi_int_int, isi_int_bool, isi_str_str, isi_tup_tup, notBos, asInt, asStr, asDic, rOpt, optOk, callD, isBo, bindTg, bindSlots, wipeD, ownL, ownK, ownAt, appD, extD.eq_1, putD.eq_1, putD.eq_2, setOwn, freeze, itemsD.eq_1, itemsD.eq_2, itemsD.eq_3, rng1D.eq_1, rng2D.eq_1, small62, Int.toNat_natCast, turnF, turnL, cast0, cast1, cast2, cast3, cast4, decide_true, decide_false,  freeze, app_len, rep_len,  inD.eq_1, inD.eq_2, inD.eq_3, tyD, MP.isNon, optCons, grd_T, slots_cons, slots_nil, immut, immuts, Option.map_some, Option.map_none, Option.getD_some, Option.getD_none, Option.bind_some, List.getElem?_cons_zero, List.getElem?_cons_succ, List.set_cons_zero, List.set_cons_succ, List.map_cons, List.map_nil, List.any_cons, List.any_nil, List.length_cons, List.length_nil, Nat.reduceAdd, Nat.reduceSub, List.replicate_succ, List.replicate_zero, List.cons_append, List.nil_append, Bool.or_false, Bool.false_and, Bool.and_false, Bool.false_eq_true, if_false, if_true, reduceIte, Bool.not_true, Bool.not_false, ne_eq, not_false_eq_true, and_true, true_and, and_self, Int.reduceEq, Int.reduceNe, not_true_eq_false, Int.reduceToNat, Int.reducePow, Int.reduceMul, Int.reduceAdd, Int.reduceSub, Int.reduceNeg, Nat.reduceLT, okD_int, okD_non, okD_bl, eqD_int, made_eq, grd_pos]
    rfl
def powF (n : Int) : D → Option D
  | .tup [.str s, .int i] => if n = 0 then none else some (mpD (s, i * n))
  | _ => none
theorem power2_eq {one : Ms} {n : Int} (l1 : one.length ≤ 100000) (b2 : ∀ p ∈ one, -(2 ^ 900) < p.2 ∧ p.2 < 2 ^ 900) (b3 : -(2 ^ 900) < n ∧ n < 2 ^ 900) : m_power [msD one, .int n] = .ok (msD (powM n one), .fz) := by
  unfold m_power ir_power msD
  simp (disch := first | omega | (apply cmx <;> omega) | (apply dvok <;> omega) | decide | fail) only [runD, s_cons, s_nil, s_frz, s_fgt, seq_next, seq_ret, seq_err, s_ifs, if_t, if_f, s_fors, s_whl, s_asg, s_nm_fz, s_nm_fr, s_tp, s_ret, s_rse, s_put, s_app, s_ext, s_par, e_and, e_or, and_t, and_f, or_t, or_f, test_bl, e_lc, ev.eq_1, ev.eq_2, ev.eq_3, ev.eq_4, ev.eq_5, ev.eq_6, ev.eq_7, ev.eq_8, ev.eq_9, ev.eq_12, ev.eq_13, ev.eq_14, ev.eq_15, ev.eq_16, ev.eq_17, ev.eq_18, ev.eq_19, ev.eq_20, ev.eq_21, ev.eq_22, ev.eq_23, evs, evo, evIt, MP.R.bind_ok, MP.R.bind_err, notBo_fz, notBo_fr, retK_fz, retK_fr, retK_bo, noErr_ok, binD.eq_1, binD.eq_2, binD.eq_3, binD.eq_4, binD.eq_5, binD.eq_6, binD.eq_7, binD.eq_8, binD.eq_9, binD.eq_10, binD.eq_11, cmpD.eq_1, cmpD.eq_2, cmpD.eq_3, cmpD.eq_4, cmpD.eq_5, cmpD.eq_6, cmpD.eq_7, cmpD.eq_8, cmpD.eq_9, cmpD.eq_10, cmpD.eq_11, cmpD.eq_12, cmpD.eq_13, ixD.eq_1, ixD.eq_2, ixD.eq_3, ixD.eq_4, ixD.eq_5, biD.eq_1, biD.eq_2, biD.eq_3, biD.eq_4, biD.eq_5, biD.eq_6, biD.eq_7, biD.eq_8, biD.eq_9, biD.eq_10, biD.eq_11, biD.eq_12, biD.eq_13, biD.eq_14, biD.eq_15, biD.eq_16, biD.eq_17, biD.eq_18, biD.eq_19, biD.eq_20, biD.eq_21, biD.eq_22, biD.eq_23, slD.eq_1, slD.eq_2, slD.eq_3, negD.eq_1, isi_int_int, isi_int_bool, isi_str_str, isi_tup_tup, notBos, asInt, asStr, asDic, rOpt, optOk, callD, isBo, bindTg, bindSlots, wipeD, ownL, ownK, ownAt, appD, extD.eq_1, putD.eq_1, putD.eq_2, setOwn, freeze, itemsD.eq_1, itemsD.eq_2, itemsD.eq_3, rng1D.eq_1, rng2D.eq_1, small62, Int.toNat_natCast, turnF, turnL, cast0, cast1, cast2, cast3, cast4, decide_true, decide_false,  freeze, app_len, rep_len,  inD.eq_1, inD.eq_2, inD.eq_3, tyD, MP.isNon, optCons, grd_T, slots_cons, slots_nil, immut, immuts, Option.map_some, Option.map_none, Option.getD_some, Option.getD_none, Option.bind_some, List.getElem?_cons_zero, List.getElem?_cons_succ, List.set_cons_zero, List.set_cons_succ, List.map_cons, List.map_nil, List.any_cons, List.any_nil, List.length_cons, List.length_nil, Nat.reduceAdd, Nat.reduceSub, List.replicate_succ, List.replicate_zero, List.cons_append, List.nil_append, Bool.or_false, Bool.false_and, Bool.and_false, Bool.false_eq_true, if_false, if_true, reduceIte, Bool.not_true, Bool.not_false, ne_eq, not_false_eq_true, and_true, true_and, and_self, Int.reduceEq, Int.reduceNe, not_true_eq_false, Int.reduceToNat, Int.reducePow, Int.reduceMul, Int.reduceAdd, Int.reduceSub, Int.reduceNeg, Nat.reduceLT, okD_int, okD_non, okD_bl, eqD_int, grd_pos, List.length_map]
  generalize hX : evItems _ _ = X
  have e : (one.map mpD).filterMap (powF n) = (powM n one).map mpD := by
    unfold powM
    clear hX l1 b2
    by_cases z : n = 0
    · rw [if_pos z, List.filterMap_map]
      rw [List.filterMap_eq_nil_iff.mpr]
      · rfl
      · intro p _
        simp [mpD, powF, z]
    · rw [if_neg z, List.filterMap_map]
      unfold scale
      rw [List.map_map]
      induction one with
      | nil => rfl
      | cons p l ih =>
        rw [List.filterMap_cons, List.map_cons]
        simp only [Function.comp, mpD, powF, z, if_false] at ih ⊢
        rw [ih]
  rw [items_map hX (powF n) ?_, e]
  · simp (disch := first | omega | (apply cmx <;> omega) | (apply dvok <;> omega) | decide | fail) only [runD, s_cons, s_nil, s_frz, s_fgt, seq_next, seq_ret, seq_err, s_ifs, if_t, if_f, s_fors, s_whl, s_asg, s_nm_fz, s_nm_fr, s_tp, s_ret, s_rse, s_put, s_app, s_ext, s_par, e_and, e_or, and_t, and_f, or_t, or_f, test_bl, e_lc, ev.eq_1, ev.eq_2, ev.eq_3, ev.eq_4, ev.eq_5, ev.eq_6, ev.eq_7, ev.eq_8, ev.eq_9, ev.eq_12, ev.eq_13, ev.eq_14, ev.eq_15, ev.eq_16, ev.eq_17, ev.eq_18, ev.eq_19, ev.eq_20, ev.eq_21, ev.eq_22, ev.eq_23, evs, evo, evIt, MP.R.bind_ok, MP.R.bind_err, notBo_fz, notBo_fr, retK_fz, retK_fr, retK_bo, noErr_ok, binD.eq_1, binD.eq_2, binD.eq_3, binD.eq_4, binD.eq_5, binD.eq_6, binD.eq_7, binD.eq_8, binD.eq_9, binD.eq_10, binD.eq_11, cmpD.eq_1, cmpD.eq_2, cmpD.eq_3, cmpD.eq_4, cmpD.eq_5, cmpD.eq_6, cmpD.eq_7, cmpD.eq_8, cmpD.eq_9, cmpD.eq_10, cmpD.eq_11, cmpD.eq_12, cmpD.eq_13, ixD.eq_1, ixD.eq_2, ixD.eq_3, ixD.eq_4, ixD.eq_5, biD.eq_1, biD.eq_2, biD.eq_3, biD.eq_4, biD.eq_5, biD.eq_6, biD.eq_7, biD.eq_8, biD.eq_9, biD.eq_10, biD.eq_11, biD.eq_12, biD.eq_13, biD.eq_14, biD.eq_15, biD.eq_16, biD.eq_17, biD.eq_18, biD.eq_19, biD.eq_20, biD.eq_21, biD.eq_22, biD.eq_23, slD.eq_1, slD.eq_2, slD.eq_3, negD.eq_1, isi_int_int, isi_int_bool, isi_str_str, isi_tup_tup, notBos, asInt, asStr, asDic, rOpt, optOk, callD, isBo, bindTg, bindSlots, wipeD, ownL, ownK, ownAt, appD, extD.eq_1, putD.eq_1, putD.eq_2, setOwn, freeze, itemsD.eq_1, itemsD.eq_2, itemsD.eq_3, rng1D.eq_1, rng2D.eq_1, small62, Int.toNat_natCast, turnF, turnL, cast0, cast1, cast2, cast3, cast4, decide_true, decide_false,  freeze, app_len, rep_len,  inD.eq_1, inD.eq_2, inD.eq_3, tyD, MP.isNon, optCons, grd_T, slots_cons, slots_nil, immut, immuts, Option.map_some, Option.map_none, Option.getD_some, Option.getD_none, Option.bind_some, List.getElem?_cons_zero, List.getElem?_cons_succ, List.set_cons_zero, List.set_cons_succ, List.map_cons, List.map_nil, List.any_cons, List.any_nil, List.length_cons, List.length_nil, Nat.reduceAdd, Nat.reduceSub, List.replicate_succ, List.replicate_zero, List.cons_append, List.nil_append, Bool.or_false, Bool.false_and, Bool.and_false, Bool.false_eq_true, if_false, if_true, reduceIte, Bool.not_true, Bool.not_false, ne_eq, not_false_eq_true, and_true, true_and, and_self, Int.reduceEq, Int.reduceNe, not_true_eq_false, Int.reduceToNat, Int.reducePow, Int.reduceMul, Int.reduceAdd, Int.reduceSub, Int.reduceNeg, Nat.reduceLT, okD_int, okD_non, okD_bl, eqD_int, grd_pos]
  · clear hX
    intro x hx
    obtain ⟨p, hp, rfl⟩ := List.mem_map.mp hx
    have hb := b2 p hp
    have cm : CMulX p.2 n := cmx (by omega) (by omega) (by omega) (by omega)
    by_cases z : n = 0
    · have z' : (n = 0) = True := eq_true z
      simp (disch := first | omega | (apply cmx <;> omega) | (apply dvok <;> omega) | decide | fail) only [runD, s_cons, s_nil, s_frz, s_fgt, seq_next, seq_ret, seq_err, s_ifs, if_t, if_f, s_fors, s_whl, s_asg, s_nm_fz, s_nm_fr, s_tp, s_ret, s_rse, s_put, s_app, s_ext, s_par, e_and, e_or, and_t, and_f, or_t, or_f, test_bl, e_lc, ev.eq_1, ev.eq_2, ev.eq_3, ev.eq_4, ev.eq_5, ev.eq_6, ev.eq_7, ev.eq_8, ev.eq_9, ev.eq_12, ev.eq_13, ev.eq_14, ev.eq_15, ev.eq_16, ev.eq_17, ev.eq_18, ev.eq_19, ev.eq_20, ev.eq_21, ev.eq_22, ev.eq_23, evs, evo, evIt, MP.R.bind_ok, MP.R.bind_err, notBo_fz, notBo_fr, retK_fz, retK_fr, retK_bo, noErr_ok, binD.eq_1, binD.eq_2, binD.eq_3, binD.eq_4, binD.eq_5, binD.eq_6, binD.eq_7, binD.eq_8, binD.eq_9, binD.eq_10, binD.eq_11, cmpD.eq_1, cmpD.eq_2, cmpD.eq_3, cmpD.eq_4, cmpD.eq_5, cmpD.eq_6, cmpD.eq_7, cmpD.eq_8, cmpD.eq_9, cmpD.eq_10, cmpD.eq_11, cmpD.eq_12, cmpD.eq_13, ixD.eq_1, ixD.eq_2, ixD.eq_3, ixD.eq_4, ixD.eq_5, biD.eq_1, biD.eq_2, biD.eq_3, biD.eq_4, biD.eq_5, biD.eq_6, biD.eq_7, biD.eq_8, biD.eq_9, biD.eq_10, biD.eq_11, biD.eq_12, biD.eq_13, biD.eq_14, biD.eq_15, biD.eq_16, biD.eq_17, biD.eq_18, biD.eq_19, biD.eq_20, biD.eq_21, biD.eq_22, biD.eq_23, slD.eq_1, slD.eq_2, slD.eq_3, negD.eq_1, isi_int_int, isi_int_bool, isi_str_str, isi_tup_tup, notBos, asInt, asStr, asDic, rOpt, optOk, callD, isBo, bindTg, bindSlots, wipeD, ownL, ownK, ownAt, appD, extD.eq_1, putD.eq_1, putD.eq_2, setOwn, freeze, itemsD.eq_1, itemsD.eq_2, itemsD.eq_3, rng1D.eq_1, rng2D.eq_1, small62, Int.toNat_natCast, turnF, turnL, cast0, cast1, cast2, cast3, cast4, decide_true, decide_false,  freeze, app_len, rep_len,  inD.eq_1, inD.eq_2, inD.eq_3, tyD, MP.isNon, optCons, grd_T, slots_cons, slots_nil, immut, immuts, Option.map_some, Option.map_none, Option.getD_some, Option.getD_none, Option.bind_some, List.getElem?_cons_zero, List.getElem?_cons_succ, List.set_cons_zero, List.set_cons_succ, List.map_cons, List.map_nil, List.any_cons, List.any_nil, List.length_cons, List.length_nil, Nat.reduceAdd, Nat.reduceSub, List.replicate_succ, List.replicate_zero, List.cons_append, List.nil_append, Bool.or_false, Bool.false_and, Bool.and_false, Bool.false_eq_true, if_false, if_true, reduceIte, Bool.not_true, Bool.not_false, ne_eq, not_false_eq_true, and_true, true_and, and_self, Int.reduceEq, Int.reduceNe, not_true_eq_false, Int.reduceToNat, Int.reducePow, Int.reduceMul, Int.reduceAdd, Int.reduceSub, Int.reduceNeg, Nat.reduceLT, okD_int, okD_non, okD_bl, eqD_int, mpD, powF, grd_pos, z', cm]
    · have z' : (n = 0) = False := eq_false z
      simp (disch := first | omega | (apply cmx <;> omega) | (apply dvok <;> omega) | decide | fail) only [runD, s_cons, s_nil, s_frz, s_fgt, seq_next, seq_ret, seq_err, s_ifs, if_t, if_f, s_fors, s_whl, s_asg, s_nm_fz, s_nm_fr, s_tp, s_ret, s_rse, s_put, s_app, s_ext, s_par, e_and, e_or, and_t, and_f, or_t, or_f, test_bl, e_lc, ev.eq_1, ev.eq_2, ev.eq_3, ev.eq_4, ev.eq_5, ev.eq_6, ev.eq_7, ev.eq_8, ev.eq_9, ev.eq_12, ev.eq_13, ev.eq_14, ev.eq_15, ev.eq_16, ev.eq_17, ev.eq_18, ev.eq_19, ev.eq_20, ev.eq_21, ev.eq_22, ev.eq_23, evs, evo, evIt, MP.R.bind_ok, MP.R.bind_err, notBo_fz, notBo_fr, retK_fz, retK_fr, retK_bo, noErr_ok, binD.eq_1, binD.eq_2, binD.eq_3, binD.eq_4, binD.eq_5, binD.eq_6, binD.eq_7, binD.eq_8, binD.eq_9, binD.eq_10, binD.eq_11, cmpD.eq_1, cmpD.eq_2, cmpD.eq_3, cmpD.eq_4, cmpD.eq_5, cmpD.eq_6, cmpD.eq_7, cmpD.eq_8, cmpD.eq_9, cmpD.eq_10, cmpD.eq_11, cmpD.eq_12, cmpD.eq_13, ixD.eq_1, ixD.eq_2, ixD.eq_3, ixD.eq_4, ixD.eq_5, biD.eq_1, biD.eq_2, biD.eq_3, biD.eq_4, biD.eq_5, biD.eq_6, biD.eq_7, biD.eq_8, biD.eq_9, biD.eq_10, biD.eq_11, biD.eq_12, biD.eq_13, biD.eq_14, biD.eq_15, biD.eq_16, biD.eq_17, biD.eq_18, biD.eq_19, biD.eq_20, biD.eq_21, biD.eq_22, biD.eq_23, slD.eq_1, slD.eq_2, slD.eq_3, negD.eq_1, isi_int_int, isi_int_bool, isi_str_str, isi_tup_tup, notBos, asInt, asStr, asDic, rOpt, optOk, callD, isBo, bindTg, bindSlots, wipeD, ownL, ownK, ownAt, appD, extD.eq_1, putD.eq_1, putD.eq_2, setOwn, freeze, itemsD.eq_1, itemsD.eq_2, itemsD.eq_3, rng1D.eq_1, rng2D.eq_1, small62, Int.toNat_natCast, turnF, turnL, cast0, cast1, cast2, cast3, cast4, decide_true, decide_false,  freeze, app_len, rep_len,  inD.eq_1, inD.eq_2, inD.eq_3, tyD, MP.isNon, optCons, grd_T, slots_cons, slots_nil, immut, immuts, Option.map_some, Option.map_none, Option.getD_some, Option.getD_none, Option.bind_some, List.getElem?_cons_zero, List.getElem?_cons_succ, List.set_cons_zero, List.set_cons_succ, List.map_cons, List.map_nil, List.any_cons, List.any_nil, List.length_cons, List.length_nil, Nat.reduceAdd, Nat.reduceSub, List.replicate_succ, List.replicate_zero, List.cons_append, List.nil_append, Bool.or_false, Bool.false_and, Bool.and_false, Bool.false_eq_true, if_false, if_true, reduceIte, Bool.not_true, Bool.not_false, ne_eq, not_false_eq_true, and_true, true_and, and_self, Int.reduceEq, Int.reduceNe, not_true_eq_false, Int.reduceToNat, Int.reducePow, Int.reduceMul, Int.reduceAdd, Int.reduceSub, Int.reduceNeg, Nat.reduceLT, okD_int, okD_non, okD_bl, eqD_int, mpD, powF, grd_pos, z', cm]
theorem over_eq {one other : Ms} (n1 : (one.map (·.1)).Nodup) (l1 : one.length ≤ 100000) (l2 : other.length ≤ 100000) (b2 : ∀ p ∈ other, -(2 ^ 900) < p.2 ∧ p.2 < 2 ^ 900) : m_over [msD one, msD other] = .ok (msD (madeM (addM one (scale (-1) other))), .fz) := by
  have e : powM (-1) other = scale (-1) other := if_neg (by decide)
  have l3 : (scale (-1) other).length ≤ 100000 := by unfold scale; rw [List.length_map]; exact l2
  unfold m_over ir_over
  simp (disch := first | omega | (apply cmx <;> omega) | (apply dvok <;> omega) | decide | fail) only [runD, s_cons, s_nil, s_frz, s_fgt, seq_next, seq_ret, seq_err, s_ifs, if_t, if_f, s_fors, s_whl, s_asg, s_nm_fz, s_nm_fr, s_tp, s_ret, s_rse, s_put, s_app, s_ext, s_par, e_and, e_or, and_t, and_f, or_t, or_f, test_bl, e_lc, ev.eq_1, ev.eq_2, ev.eq_3, ev.eq_4, ev.eq_5, ev.eq_6, ev.eq_7, ev.eq_8, ev.eq_9, ev.eq_12, ev.eq_13, ev.eq_14, ev.eq_15, ev.eq_16, ev.eq_17, ev.eq_18, ev.eq_19, ev.eq_20, ev.eq_21, ev.eq_22, ev.eq_23, evs, evo, evIt, MP.R.bind_ok, MP.R.bind_err, notBo_fz, notBo_fr, retK_fz, retK_fr, retK_bo, noErr_ok, binD.eq_1, binD.eq_2, binD.eq_3, binD.eq_4, binD.eq_5, binD.eq_6, binD.eq_7, binD.eq_8, binD.eq_9, binD.eq_10, binD.eq_11, cmpD.eq_1, cmpD.eq_2, cmpD.eq_3, cmpD.eq_4, cmpD.eq_5, cmpD.eq_6, cmpD.eq_7, cmpD.eq_8, cmpD.eq_9, cmpD.eq_10, cmpD.eq_11, cmpD.eq_12, cmpD.eq_13, ixD.eq_1, ixD.eq_2, ixD.eq_3, ixD.eq_4, ixD.eq_5, biD.eq_1, biD.eq_2, biD.eq_3, biD.eq_4, biD.eq_5, biD.eq_6, biD.eq_7, biD.eq_8, biD.eq_9, biD.eq_10, biD.eq_11, biD.eq_12, biD.eq_13, biD.eq_14, biD.eq_15, biD.eq_16, biD.eq_17, biD.eq_18, biD.eq_19, biD.eq_20, biD.eq_21, biD.eq_22, biD.eq_23, slD.eq_1, slD.eq_2, slD.eq_3, negD.eq_1, isi_int_int, isi_int_bool, isi_str_str, isi_tup_tup, notBos, asInt, asStr, asDic, rOpt, optOk, callD, isBo, bindTg, bindSlots, wipeD, ownL, ownK, ownAt, appD, extD.eq_1, putD.eq_1, putD.eq_2, setOwn, freeze, itemsD.eq_1, itemsD.eq_2, itemsD.eq_3, rng1D.eq_1, rng2D.eq_1, small62, Int.toNat_natCast, turnF, turnL, cast0, cast1, cast2, cast3, cast4, decide_true, decide_false,  freeze, app_len, rep_len,  inD.eq_1, inD.eq_2, inD.eq_3, tyD, MP.isNon, optCons, grd_T, slots_cons, slots_nil, immut, immuts, Option.map_some, Option.map_none, Option.getD_some, Option.getD_none, Option.bind_some, List.getElem?_cons_zero, List.getElem?_cons_succ, List.set_cons_zero, List.set_cons_succ, List.map_cons, List.map_nil, List.any_cons, List.any_nil, List.length_cons, List.length_nil, Nat.reduceAdd, Nat.reduceSub, List.replicate_succ, List.replicate_zero, List.cons_append, List.nil_append, Bool.or_false, Bool.false_and, Bool.and_false, Bool.false_eq_true, if_false, if_true, reduceIte, Bool.not_true, Bool.not_false, ne_eq, not_false_eq_true, and_true, true_and, and_self, Int.reduceEq, Int.reduceNe, not_true_eq_false, Int.reduceToNat, Int.reducePow, Int.reduceMul, Int.reduceAdd, Int.reduceSub, Int.reduceNeg, Nat.reduceLT, okD_int, okD_non, okD_bl, eqD_int, power2_eq l2 b2 (n := -1) (by decide), e, times_eq n1 l1 l3]
section
variable {l : Nat} {c : Int} {N : Str → Prop} {nm : Str → Ms} {ks : List (Str × D)}
theorem hd_of {G : List Ms} {i : Nat} (h : i < G.length) : (G.map msD)[i]? = some (msD ((G.drop i).headD [])) := by
  rw [List.getElem?_map, List.drop_eq_getElem_cons h, List.getElem?_eq_getElem h]
  rfl
theorem walked_eq (hc : 0 ≤ c) (hl8 : l ≤ 8) (hc9 : c ≤ 1000000000) (hn : ∀ s, N s → Bm l c (nm s)) (hk : ∀ s, N s → dget ks s = some (msD (nm s))) (G : List Ms) (hG : ∀ g ∈ G, Bm l c g) (lG : G.length ≤ 4000) : ∀ (r : Rk) (k i : Nat), r.ht < k → r.ht ≤ 12 → r.Ok l c N → i + r.nn ≤ G.length → r.size ≤ 4000 →
    m_walked k [r.d, .dic ks, .lst (G.map msD), .int i] = .ok (.tup [msD (walkR r nm (G.drop i)).1, .lst ((walkR r nm (G.drop i)).2.map msD)], .fz) ∧ (walkR r nm (G.drop i)).2.length ≤ 2 * r.size
  | r, 0, i, h, _, _, _, _ => absurd h (Nat.not_lt_zero _)
  | .is p m, k + 1, i, h, h12, ok, hi, hs => by
    show runD 10 (ir_walked (m_walked k)) _ = _ ∧ _
    refine ⟨?_, by simp [walkR]⟩
    unfold ir_walked
    simp (disch := first | omega | (apply cmx <;> omega) | (apply dvok <;> omega) | decide | fail) only [runD, s_cons, s_nil, s_frz, s_fgt, seq_next, seq_ret, seq_err, s_ifs, if_t, if_f, s_fors, s_whl, s_asg, s_nm_fz, s_nm_fr, s_tp, s_ret, s_rse, s_put, s_app, s_ext, s_par, e_and, e_or, and_t, and_f, or_t, or_f, test_bl, e_lc, ev.eq_1, ev.eq_2, ev.eq_3, ev.eq_4, ev.eq_5, ev.eq_6, ev.eq_7, ev.eq_8, ev.eq_9, ev.eq_12, ev.eq_13, ev.eq_14, ev.eq_15, ev.eq_16, ev.eq_17, ev.eq_18, ev.eq_19, ev.eq_20, ev.eq_21, ev.eq_22, ev.eq_23, evs, evo, evIt, MP.R.bind_ok, MP.R.bind_err, notBo_fz, notBo_fr, retK_fz, retK_fr, retK_bo, noErr_ok, binD.eq_1, binD.eq_2, binD.eq_3, binD.eq_4, binD.eq_5, binD.eq_6, binD.eq_7, binD.eq_8, binD.eq_9, binD.eq_10, binD.eq_11, cmpD.eq_3, cmpD.eq_4, cmpD.eq_5, cmpD.eq_6, cmpD.eq_7, cmpD.eq_8, cmpD.eq_9, cmpD.eq_10, cmpD.eq_11, cmpD.eq_12, cmpD.eq_13, ixD.eq_1, ixD.eq_2, ixD.eq_3, ixD.eq_4, ixD.eq_5, biD.eq_1, biD.eq_2, biD.eq_3, biD.eq_4, biD.eq_5, biD.eq_6, biD.eq_7, biD.eq_8, biD.eq_9, biD.eq_10, biD.eq_11, biD.eq_12, biD.eq_13, biD.eq_14, biD.eq_15, biD.eq_16, biD.eq_17, biD.eq_18, biD.eq_19, biD.eq_20, biD.eq_21, biD.eq_22, biD.eq_23, slD.eq_1, slD.eq_2, slD.eq_3, negD.eq_1, isi_int_int, isi_int_bool, isi_str_str, isi_tup_tup, notBos, asInt, asStr, asDic, rOpt, optOk, callD, isBo, bindTg, bindSlots, wipeD, ownL, ownK, ownAt, appD, extD.eq_1, putD.eq_1, putD.eq_2, setOwn, freeze, itemsD.eq_1, itemsD.eq_2, itemsD.eq_3, rng1D.eq_1, rng2D.eq_1, small62, Int.toNat_natCast, turnF, turnL, cast0, cast1, cast2, cast3, cast4, decide_true, decide_false,  freeze, app_len, rep_len,  inD.eq_1, inD.eq_2, inD.eq_3, tyD, MP.isNon, optCons, grd_T, slots_cons, slots_nil, immut, immuts, Option.map_some, Option.map_none, Option.getD_some, Option.getD_none, Option.bind_some, List.getElem?_cons_zero, List.getElem?_cons_succ, List.set_cons_zero, List.set_cons_succ, List.map_cons, List.map_nil, List.any_cons, List.any_nil, List.length_cons, List.length_nil, Nat.reduceAdd, Nat.reduceSub, List.replicate_succ, List.replicate_zero, List.cons_append, List.nil_append, Bool.or_false, Bool.false_and, Bool.and_false, Bool.false_eq_true, if_false, if_true, reduceIte, Bool.not_true, Bool.not_false, ne_eq, not_false_eq_true, and_true, true_and, and_self, Int.reduceEq, Int.reduceNe, not_true_eq_false, Int.reduceToNat, Int.reducePow, Int.reduceMul, Int.reduceAdd, Int.reduceSub, Int.reduceNeg, Nat.reduceLT, okD_int, okD_non, okD_bl, eqD_int, cmp_eqI, cmp_neI, at_0, at_1, at_2, at_3, at_4, cut_1, k_is_is, k_is_nought, k_is_input, k_is_power, k_is_less, k_is_plus, k_is_minus, k_is_times, k_is_over, ki_is, k_nought_is, k_nought_nought, k_nought_input, k_nought_power, k_nought_less, k_nought_plus, k_nought_minus, k_nought_times, k_nought_over, ki_nought, k_input_is, k_input_nought, k_input_input, k_input_power, k_input_less, k_input_plus, k_input_minus, k_input_times, k_input_over, ki_input, k_power_is, k_power_nought, k_power_input, k_power_power, k_power_less, k_power_plus, k_power_minus, k_power_times, k_power_over, ki_power, k_less_is, k_less_nought, k_less_input, k_less_power, k_less_less, k_less_plus, k_less_minus, k_less_times, k_less_over, ki_less, ko_is, ko_nought, ko_input, ko_power, ko_less, ko_plus, ko_minus, ko_times, ko_over, ki_o, Rk.d, walkR, grd_pos]
  | .nought, k + 1, i, h, h12, ok, hi, hs => by
    show runD 10 (ir_walked (m_walked k)) _ = _ ∧ _
    refine ⟨?_, by simp [walkR]⟩
    simp only [Rk.nn] at hi
    have eh := hd_of (G := G) (i := i) (by omega)
    unfold ir_walked
    simp (disch := first | omega | (apply cmx <;> omega) | (apply dvok <;> omega) | decide | fail) only [runD, s_cons, s_nil, s_frz, s_fgt, seq_next, seq_ret, seq_err, s_ifs, if_t, if_f, s_fors, s_whl, s_asg, s_nm_fz, s_nm_fr, s_tp, s_ret, s_rse, s_put, s_app, s_ext, s_par, e_and, e_or, and_t, and_f, or_t, or_f, test_bl, e_lc, ev.eq_1, ev.eq_2, ev.eq_3, ev.eq_4, ev.eq_5, ev.eq_6, ev.eq_7, ev.eq_8, ev.eq_9, ev.eq_12, ev.eq_13, ev.eq_14, ev.eq_15, ev.eq_16, ev.eq_17, ev.eq_18, ev.eq_19, ev.eq_20, ev.eq_21, ev.eq_22, ev.eq_23, evs, evo, evIt, MP.R.bind_ok, MP.R.bind_err, notBo_fz, notBo_fr, retK_fz, retK_fr, retK_bo, noErr_ok, binD.eq_1, binD.eq_2, binD.eq_3, binD.eq_4, binD.eq_5, binD.eq_6, binD.eq_7, binD.eq_8, binD.eq_9, binD.eq_10, binD.eq_11, cmpD.eq_3, cmpD.eq_4, cmpD.eq_5, cmpD.eq_6, cmpD.eq_7, cmpD.eq_8, cmpD.eq_9, cmpD.eq_10, cmpD.eq_11, cmpD.eq_12, cmpD.eq_13, ixD.eq_1, ixD.eq_2, ixD.eq_3, ixD.eq_4, ixD.eq_5, biD.eq_1, biD.eq_2, biD.eq_3, biD.eq_4, biD.eq_5, biD.eq_6, biD.eq_7, biD.eq_8, biD.eq_9, biD.eq_10, biD.eq_11, biD.eq_12, biD.eq_13, biD.eq_14, biD.eq_15, biD.eq_16, biD.eq_17, biD.eq_18, biD.eq_19, biD.eq_20, biD.eq_21, biD.eq_22, biD.eq_23, slD.eq_1, slD.eq_2, slD.eq_3, negD.eq_1, isi_int_int, isi_int_bool, isi_str_str, isi_tup_tup, notBos, asInt, asStr, asDic, rOpt, optOk, callD, isBo, bindTg, bindSlots, wipeD, ownL, ownK, ownAt, appD, extD.eq_1, putD.eq_1, putD.eq_2, setOwn, freeze, itemsD.eq_1, itemsD.eq_2, itemsD.eq_3, rng1D.eq_1, rng2D.eq_1, small62, Int.toNat_natCast, turnF, turnL, cast0, cast1, cast2, cast3, cast4, decide_true, decide_false,  freeze, app_len, rep_len,  inD.eq_1, inD.eq_2, inD.eq_3, tyD, MP.isNon, optCons, grd_T, slots_cons, slots_nil, immut, immuts, Option.map_some, Option.map_none, Option.getD_some, Option.getD_none, Option.bind_some, List.getElem?_cons_zero, List.getElem?_cons_succ, List.set_cons_zero, List.set_cons_succ, List.map_cons, List.map_nil, List.any_cons, List.any_nil, List.length_cons, List.length_nil, Nat.reduceAdd, Nat.reduceSub, List.replicate_succ, List.replicate_zero, List.cons_append, List.nil_append, Bool.or_false, Bool.false_and, Bool.and_false, Bool.false_eq_true, if_false, if_true, reduceIte, Bool.not_true, Bool.not_false, ne_eq, not_false_eq_true, and_true, true_and, and_self, Int.reduceEq, Int.reduceNe, not_true_eq_false, Int.reduceToNat, Int.reducePow, Int.reduceMul, Int.reduceAdd, Int.reduceSub, Int.reduceNeg, Nat.reduceLT, okD_int, okD_non, okD_bl, eqD_int, cmp_eqI, cmp_neI, at_0, at_1, at_2, at_3, at_4, cut_1, k_is_is, k_is_nought, k_is_input, k_is_power, k_is_less, k_is_plus, k_is_minus, k_is_times, k_is_over, ki_is, k_nought_is, k_nought_nought, k_nought_input, k_nought_power, k_nought_less, k_nought_plus, k_nought_minus, k_nought_times, k_nought_over, ki_nought, k_input_is, k_input_nought, k_input_input, k_input_power, k_input_less, k_input_plus, k_input_minus, k_input_times, k_input_over, ki_input, k_power_is, k_power_nought, k_power_input, k_power_power, k_power_less, k_power_plus, k_power_minus, k_power_times, k_power_over, ki_power, k_less_is, k_less_nought, k_less_input, k_less_power, k_less_less, k_less_plus, k_less_minus, k_less_times, k_less_over, ki_less, ko_is, ko_nought, ko_input, ko_power, ko_less, ko_plus, ko_minus, ko_times, ko_over, ki_o, Rk.d, walkR, MP.atI_nat, eh, grd_pos]
  | .input s, k + 1, i, h, h12, ok, hi, hs => by
    show runD 10 (ir_walked (m_walked k)) _ = _ ∧ _
    refine ⟨?_, by simp [walkR]⟩
    have e := hk s ok
    unfold ir_walked
    simp (disch := first | omega | (apply cmx <;> omega) | (apply dvok <;> omega) | decide | fail) only [runD, s_cons, s_nil, s_frz, s_fgt, seq_next, seq_ret, seq_err, s_ifs, if_t, if_f, s_fors, s_whl, s_asg, s_nm_fz, s_nm_fr, s_tp, s_ret, s_rse, s_put, s_app, s_ext, s_par, e_and, e_or, and_t, and_f, or_t, or_f, test_bl, e_lc, ev.eq_1, ev.eq_2, ev.eq_3, ev.eq_4, ev.eq_5, ev.eq_6, ev.eq_7, ev.eq_8, ev.eq_9, ev.eq_12, ev.eq_13, ev.eq_14, ev.eq_15, ev.eq_16, ev.eq_17, ev.eq_18, ev.eq_19, ev.eq_20, ev.eq_21, ev.eq_22, ev.eq_23, evs, evo, evIt, MP.R.bind_ok, MP.R.bind_err, notBo_fz, notBo_fr, retK_fz, retK_fr, retK_bo, noErr_ok, binD.eq_1, binD.eq_2, binD.eq_3, binD.eq_4, binD.eq_5, binD.eq_6, binD.eq_7, binD.eq_8, binD.eq_9, binD.eq_10, binD.eq_11, cmpD.eq_3, cmpD.eq_4, cmpD.eq_5, cmpD.eq_6, cmpD.eq_7, cmpD.eq_8, cmpD.eq_9, cmpD.eq_10, cmpD.eq_11, cmpD.eq_12, cmpD.eq_13, ixD.eq_1, ixD.eq_2, ixD.eq_3, ixD.eq_4, ixD.eq_5, biD.eq_1, biD.eq_2, biD.eq_3, biD.eq_4, biD.eq_5, biD.eq_6, biD.eq_7, biD.eq_8, biD.eq_9, biD.eq_10, biD.eq_11, biD.eq_12, biD.eq_13, biD.eq_14, biD.eq_15, biD.eq_16, biD.eq_17, biD.eq_18, biD.eq_19, biD.eq_20, biD.eq_21, biD.eq_22, biD.eq_23, slD.eq_1, slD.eq_2, slD.eq_3, negD.eq_1, isi_int_int, isi_int_bool, isi_str_str, isi_tup_tup, notBos, asInt, asStr, asDic, rOpt, optOk, callD, isBo, bindTg, bindSlots, wipeD, ownL, ownK, ownAt, appD, extD.eq_1, putD.eq_1, putD.eq_2, setOwn, freeze, itemsD.eq_1, itemsD.eq_2, itemsD.eq_3, rng1D.eq_1, rng2D.eq_1, small62, Int.toNat_natCast, turnF, turnL, cast0, cast1, cast2, cast3, cast4, decide_true, decide_false,  freeze, app_len, rep_len,  inD.eq_1, inD.eq_2, inD.eq_3, tyD, MP.isNon, optCons, grd_T, slots_cons, slots_nil, immut, immuts, Option.map_some, Option.map_none, Option.getD_some, Option.getD_none, Option.bind_some, List.getElem?_cons_zero, List.getElem?_cons_succ, List.set_cons_zero, List.set_cons_succ, List.map_cons, List.map_nil, List.any_cons, List.any_nil, List.length_cons, List.length_nil, Nat.reduceAdd, Nat.reduceSub, List.replicate_succ, List.replicate_zero, List.cons_append, List.nil_append, Bool.or_false, Bool.false_and, Bool.and_false, Bool.false_eq_true, if_false, if_true, reduceIte, Bool.not_true, Bool.not_false, ne_eq, not_false_eq_true, and_true, true_and, and_self, Int.reduceEq, Int.reduceNe, not_true_eq_false, Int.reduceToNat, Int.reducePow, Int.reduceMul, Int.reduceAdd, Int.reduceSub, Int.reduceNeg, Nat.reduceLT, okD_int, okD_non, okD_bl, eqD_int, cmp_eqI, cmp_neI, at_0, at_1, at_2, at_3, at_4, cut_1, k_is_is, k_is_nought, k_is_input, k_is_power, k_is_less, k_is_plus, k_is_minus, k_is_times, k_is_over, ki_is, k_nought_is, k_nought_nought, k_nought_input, k_nought_power, k_nought_less, k_nought_plus, k_nought_minus, k_nought_times, k_nought_over, ki_nought, k_input_is, k_input_nought, k_input_input, k_input_power, k_input_less, k_input_plus, k_input_minus, k_input_times, k_input_over, ki_input, k_power_is, k_power_nought, k_power_input, k_power_power, k_power_less, k_power_plus, k_power_minus, k_power_times, k_power_over, ki_power, k_less_is, k_less_nought, k_less_input, k_less_power, k_less_less, k_less_plus, k_less_minus, k_less_times, k_less_over, ki_less, ko_is, ko_nought, ko_input, ko_power, ko_less, ko_plus, ko_minus, ko_times, ko_over, ki_o, Rk.d, walkR, e, grd_pos]
  | .pw a n, k + 1, i, h, h12, ok, hi, hs => by
    show runD 10 (ir_walked (m_walked k)) _ = _ ∧ _
    simp only [Rk.ht] at h h12
    simp only [Rk.nn] at hi
    simp only [Rk.size] at hs
    simp only [Rk.Ok] at ok
    have ep := parts_eq (.pw a n)
    simp only [Rk.d, Rk.parts, List.map_cons, List.map_nil] at ep
    obtain ⟨e1, l1⟩ := walked_eq hc hl8 hc9 hn hk G hG lG a k i (by omega) (by omega) ok.1 hi (by omega)
    have b1 := (walk_bm hc hn a (G.drop i) (fun g hg => hG g (List.mem_of_mem_drop hg)) ok.1).1.use hl8 hc9 (by omega) hc
    have en := noughts_eq a 20 (by omega)
    have ew := power2_eq (one := (walkR a nm (G.drop i)).1) (n := n) b1.2.1 b1.2.2 (by constructor <;> omega)
    refine ⟨?_, by simp only [walkR, Rk.size]; omega⟩
    unfold ir_walked
    simp (disch := first | omega | (apply cmx <;> omega) | (apply dvok <;> omega) | decide | fail) only [runD, s_cons, s_nil, s_frz, s_fgt, seq_next, seq_ret, seq_err, s_ifs, if_t, if_f, s_fors, s_whl, s_asg, s_nm_fz, s_nm_fr, s_tp, s_ret, s_rse, s_put, s_app, s_ext, s_par, e_and, e_or, and_t, and_f, or_t, or_f, test_bl, e_lc, ev.eq_1, ev.eq_2, ev.eq_3, ev.eq_4, ev.eq_5, ev.eq_6, ev.eq_7, ev.eq_8, ev.eq_9, ev.eq_12, ev.eq_13, ev.eq_14, ev.eq_15, ev.eq_16, ev.eq_17, ev.eq_18, ev.eq_19, ev.eq_20, ev.eq_21, ev.eq_22, ev.eq_23, evs, evo, evIt, MP.R.bind_ok, MP.R.bind_err, notBo_fz, notBo_fr, retK_fz, retK_fr, retK_bo, noErr_ok, binD.eq_1, binD.eq_2, binD.eq_3, binD.eq_4, binD.eq_5, binD.eq_6, binD.eq_7, binD.eq_8, binD.eq_9, binD.eq_10, binD.eq_11, cmpD.eq_3, cmpD.eq_4, cmpD.eq_5, cmpD.eq_6, cmpD.eq_7, cmpD.eq_8, cmpD.eq_9, cmpD.eq_10, cmpD.eq_11, cmpD.eq_12, cmpD.eq_13, ixD.eq_1, ixD.eq_2, ixD.eq_3, ixD.eq_4, ixD.eq_5, biD.eq_1, biD.eq_2, biD.eq_3, biD.eq_4, biD.eq_5, biD.eq_6, biD.eq_7, biD.eq_8, biD.eq_9, biD.eq_10, biD.eq_11, biD.eq_12, biD.eq_13, biD.eq_14, biD.eq_15, biD.eq_16, biD.eq_17, biD.eq_18, biD.eq_19, biD.eq_20, biD.eq_21, biD.eq_22, biD.eq_23, slD.eq_1, slD.eq_2, slD.eq_3, negD.eq_1, isi_int_int, isi_int_bool, isi_str_str, isi_tup_tup, notBos, asInt, asStr, asDic, rOpt, optOk, callD, isBo, bindTg, bindSlots, wipeD, ownL, ownK, ownAt, appD, extD.eq_1, putD.eq_1, putD.eq_2, setOwn, freeze, itemsD.eq_1, itemsD.eq_2, itemsD.eq_3, rng1D.eq_1, rng2D.eq_1, small62, Int.toNat_natCast, turnF, turnL, cast0, cast1, cast2, cast3, cast4, decide_true, decide_false,  freeze, app_len, rep_len,  inD.eq_1, inD.eq_2, inD.eq_3, tyD, MP.isNon, optCons, grd_T, slots_cons, slots_nil, immut, immuts, Option.map_some, Option.map_none, Option.getD_some, Option.getD_none, Option.bind_some, List.getElem?_cons_zero, List.getElem?_cons_succ, List.set_cons_zero, List.set_cons_succ, List.map_cons, List.map_nil, List.any_cons, List.any_nil, List.length_cons, List.length_nil, Nat.reduceAdd, Nat.reduceSub, List.replicate_succ, List.replicate_zero, List.cons_append, List.nil_append, Bool.or_false, Bool.false_and, Bool.and_false, Bool.false_eq_true, if_false, if_true, reduceIte, Bool.not_true, Bool.not_false, ne_eq, not_false_eq_true, and_true, true_and, and_self, Int.reduceEq, Int.reduceNe, not_true_eq_false, Int.reduceToNat, Int.reducePow, Int.reduceMul, Int.reduceAdd, Int.reduceSub, Int.reduceNeg, Nat.reduceLT, okD_int, okD_non, okD_bl, eqD_int, cmp_eqI, cmp_neI, at_0, at_1, at_2, at_3, at_4, cut_1, k_is_is, k_is_nought, k_is_input, k_is_power, k_is_less, k_is_plus, k_is_minus, k_is_times, k_is_over, ki_is, k_nought_is, k_nought_nought, k_nought_input, k_nought_power, k_nought_less, k_nought_plus, k_nought_minus, k_nought_times, k_nought_over, ki_nought, k_input_is, k_input_nought, k_input_input, k_input_power, k_input_less, k_input_plus, k_input_minus, k_input_times, k_input_over, ki_input, k_power_is, k_power_nought, k_power_input, k_power_power, k_power_less, k_power_plus, k_power_minus, k_power_times, k_power_over, ki_power, k_less_is, k_less_nought, k_less_input, k_less_power, k_less_less, k_less_plus, k_less_minus, k_less_times, k_less_over, ki_less, ko_is, ko_nought, ko_input, ko_power, ko_less, ko_plus, ko_minus, ko_times, ko_over, ki_o, ep, Rk.d, Rk.parts, exFor, turnF, e1, en, ew, List.length_map, List.length_append, walkR, grd_pos]
  | .bin o a b, k + 1, i, h, h12, ok, hi, hs => by
    show runD 10 (ir_walked (m_walked k)) _ = _ ∧ _
    simp only [Rk.ht] at h h12
    simp only [Rk.nn] at hi
    simp only [Rk.size] at hs
    simp only [Rk.Ok] at ok
    have ep := parts_eq (.bin o a b)
    simp only [Rk.d, Rk.parts, List.map_cons, List.map_nil] at ep
    obtain ⟨e1, l1⟩ := walked_eq hc hl8 hc9 hn hk G hG lG a k i (by omega) (by omega) ok.1 (by omega) (by omega)
    obtain ⟨e2, l2⟩ := walked_eq hc hl8 hc9 hn hk G hG lG b k (i + a.nn) (by omega) (by omega) ok.2 (by omega) (by omega)
    have hd : ∀ i, ∀ g ∈ G.drop i, Bm l c g := fun i g hg => hG g (List.mem_of_mem_drop hg)
    have b1 := (walk_bm hc hn a (G.drop i) (hd _) ok.1).1.use hl8 hc9 (by omega) hc
    have b2 := (walk_bm hc hn b (G.drop (i + a.nn)) (hd _) ok.2).1.use hl8 hc9 (by omega) hc
    have n1 := noughts_eq a 20 (by omega)
    have n2 := noughts_eq b 20 (by omega)
    have et := times_eq (one := (walkR a nm (G.drop i)).1) (other := (walkR b nm (G.drop (i + a.nn))).1) b1.1.nodup b1.2.1 b2.2.1
    have eo := over_eq (one := (walkR a nm (G.drop i)).1) (other := (walkR b nm (G.drop (i + a.nn))).1) b1.1.nodup b1.2.1 b2.2.1 b2.2.2
    have dd : (G.drop i).drop a.nn = G.drop (i + a.nn) := List.drop_drop
    have ci : ((i + a.nn : Nat) : Int) = (i : Int) + a.nn := by omega
    rw [ci] at e2
    refine ⟨?_, ?_⟩
    · unfold ir_walked
      cases o <;> simp (disch := first | omega | (apply cmx <;> omega) | (apply dvok <;> omega) | decide | fail) only [runD, s_cons, s_nil, s_frz, s_fgt, seq_next, seq_ret, seq_err, s_ifs, if_t, if_f, s_fors, s_whl, s_asg, s_nm_fz, s_nm_fr, s_tp, s_ret, s_rse, s_put, s_app, s_ext, s_par, e_and, e_or, and_t, and_f, or_t, or_f, test_bl, e_lc, ev.eq_1, ev.eq_2, ev.eq_3, ev.eq_4, ev.eq_5, ev.eq_6, ev.eq_7, ev.eq_8, ev.eq_9, ev.eq_12, ev.eq_13, ev.eq_14, ev.eq_15, ev.eq_16, ev.eq_17, ev.eq_18, ev.eq_19, ev.eq_20, ev.eq_21, ev.eq_22, ev.eq_23, evs, evo, evIt, MP.R.bind_ok, MP.R.bind_err, notBo_fz, notBo_fr, retK_fz, retK_fr, retK_bo, noErr_ok, binD.eq_1, binD.eq_2, binD.eq_3, binD.eq_4, binD.eq_5, binD.eq_6, binD.eq_7, binD.eq_8, binD.eq_9, binD.eq_10, binD.eq_11, cmpD.eq_3, cmpD.eq_4, cmpD.eq_5, cmpD.eq_6, cmpD.eq_7, cmpD.eq_8, cmpD.eq_9, cmpD.eq_10, cmpD.eq_11, cmpD.eq_12, cmpD.eq_13, ixD.eq_1, ixD.eq_2, ixD.eq_3, ixD.eq_4, ixD.eq_5, biD.eq_1, biD.eq_2, biD.eq_3, biD.eq_4, biD.eq_5, biD.eq_6, biD.eq_7, biD.eq_8, biD.eq_9, biD.eq_10, biD.eq_11, biD.eq_12, biD.eq_13, biD.eq_14, biD.eq_15, biD.eq_16, biD.eq_17, biD.eq_18, biD.eq_19, biD.eq_20, biD.eq_21, biD.eq_22, biD.eq_23, slD.eq_1, slD.eq_2, slD.eq_3, negD.eq_1, isi_int_int, isi_int_bool, isi_str_str, isi_tup_tup, notBos, asInt, asStr, asDic, rOpt, optOk, callD, isBo, bindTg, bindSlots, wipeD, ownL, ownK, ownAt, appD, extD.eq_1, putD.eq_1, putD.eq_2, setOwn, freeze, itemsD.eq_1, itemsD.eq_2, itemsD.eq_3, rng1D.eq_1, rng2D.eq_1, small62, Int.toNat_natCast, turnF, turnL, cast0, cast1, cast2, cast3, cast4, decide_true, decide_false,  freeze, app_len, rep_len,  inD.eq_1, inD.eq_2, inD.eq_3, tyD, MP.isNon, optCons, grd_T, slots_cons, slots_nil, immut, immuts, Option.map_some, Option.map_none, Option.getD_some, Option.getD_none, Option.bind_some, List.getElem?_cons_zero, List.getElem?_cons_succ, List.set_cons_zero, List.set_cons_succ, List.map_cons, List.map_nil, List.any_cons, List.any_nil, List.length_cons, List.length_nil, Nat.reduceAdd, Nat.reduceSub, List.replicate_succ, List.replicate_zero, List.cons_append, List.nil_append, Bool.or_false, Bool.false_and, Bool.and_false, Bool.false_eq_true, if_false, if_true, reduceIte, Bool.not_true, Bool.not_false, ne_eq, not_false_eq_true, and_true, true_and, and_self, Int.reduceEq, Int.reduceNe, not_true_eq_false, Int.reduceToNat, Int.reducePow, Int.reduceMul, Int.reduceAdd, Int.reduceSub, Int.reduceNeg, Nat.reduceLT, okD_int, okD_non, okD_bl, eqD_int, cmp_eqI, cmp_neI, at_0, at_1, at_2, at_3, at_4, cut_1, k_is_is, k_is_nought, k_is_input, k_is_power, k_is_less, k_is_plus, k_is_minus, k_is_times, k_is_over, ki_is, k_nought_is, k_nought_nought, k_nought_input, k_nought_power, k_nought_less, k_nought_plus, k_nought_minus, k_nought_times, k_nought_over, ki_nought, k_input_is, k_input_nought, k_input_input, k_input_power, k_input_less, k_input_plus, k_input_minus, k_input_times, k_input_over, ki_input, k_power_is, k_power_nought, k_power_input, k_power_power, k_power_less, k_power_plus, k_power_minus, k_power_times, k_power_over, ki_power, k_less_is, k_less_nought, k_less_input, k_less_power, k_less_less, k_less_plus, k_less_minus, k_less_times, k_less_over, ki_less, ko_is, ko_nought, ko_input, ko_power, ko_less, ko_plus, ko_minus, ko_times, ko_over, ki_o, ep, Rk.d, Rk.parts, exFor, turnF, e1, e2, n1, n2, et, eo, List.length_map, List.length_append, List.map_append, walkR, dd, timM, ovM, reduceCtorEq, grd_pos]
    · cases o <;> simp only [walkR, Rk.size, dd, List.length_append, List.length_cons, List.length_nil] <;> omega
  | .less a b x y, k + 1, i, h, h12, ok, hi, hs => by
    show runD 10 (ir_walked (m_walked k)) _ = _ ∧ _
    simp only [Rk.ht] at h h12
    simp only [Rk.nn] at hi
    simp only [Rk.size] at hs
    simp only [Rk.Ok] at ok
    have ep := parts_eq (.less a b x y)
    simp only [Rk.d, Rk.parts, List.map_cons, List.map_nil] at ep
    obtain ⟨e1, l1⟩ := walked_eq hc hl8 hc9 hn hk G hG lG a k i (by omega) (by omega) ok.1 (by omega) (by omega)
    obtain ⟨e2, l2⟩ := walked_eq hc hl8 hc9 hn hk G hG lG b k (i + a.nn) (by omega) (by omega) ok.2.1 (by omega) (by omega)
    obtain ⟨e3, l3⟩ := walked_eq hc hl8 hc9 hn hk G hG lG x k (i + a.nn + b.nn) (by omega) (by omega) ok.2.2.1 (by omega) (by omega)
    obtain ⟨e4, l4⟩ := walked_eq hc hl8 hc9 hn hk G hG lG y k (i + a.nn + b.nn + x.nn) (by omega) (by omega) ok.2.2.2 (by omega) (by omega)
    have hd : ∀ i, ∀ g ∈ G.drop i, Bm l c g := fun i g hg => hG g (List.mem_of_mem_drop hg)
    have b1 := (walk_bm hc hn a (G.drop i) (hd _) ok.1).1.use hl8 hc9 (by omega) hc
    have b2 := (walk_bm hc hn b (G.drop (i + a.nn)) (hd _) ok.2.1).1.use hl8 hc9 (by omega) hc
    have b3 := (walk_bm hc hn x (G.drop (i + a.nn + b.nn)) (hd _) ok.2.2.1).1.use hl8 hc9 (by omega) hc
    have b4 := (walk_bm hc hn y (G.drop (i + a.nn + b.nn + x.nn)) (hd _) ok.2.2.2).1.use hl8 hc9 (by omega) hc
    have n1 := noughts_eq a 20 (by omega)
    have n2 := noughts_eq b 20 (by omega)
    have n3 := noughts_eq x 20 (by omega)
    have n4 := noughts_eq y 20 (by omega)
    have eo := over_eq (one := (walkR a nm (G.drop i)).1) (other := (walkR b nm (G.drop (i + a.nn))).1) b1.1.nodup b1.2.1 b2.2.1 b2.2.2
    have evx := over_eq (one := (walkR x nm (G.drop (i + a.nn + b.nn))).1) (other := (walkR y nm (G.drop (i + a.nn + b.nn + x.nn))).1) b3.1.nodup b3.2.1 b4.2.1 b4.2.2
    have dd : (G.drop i).drop a.nn = G.drop (i + a.nn) := List.drop_drop
    have d3 : (G.drop i).drop (a.nn + b.nn) = G.drop (i + a.nn + b.nn) := by rw [List.drop_drop, Nat.add_assoc]
    have d4 : (G.drop i).drop (a.nn + b.nn + x.nn) = G.drop (i + a.nn + b.nn + x.nn) := by rw [List.drop_drop]; congr 1; omega
    have ci : ((i + a.nn : Nat) : Int) = (i : Int) + a.nn := by omega
    have c3 : ((i + a.nn + b.nn : Nat) : Int) = (i : Int) + a.nn + b.nn := by omega
    have c4 : ((i + a.nn + b.nn + x.nn : Nat) : Int) = (i : Int) + a.nn + b.nn + x.nn := by omega
    rw [ci] at e2
    rw [c3] at e3
    rw [c4] at e4
    refine ⟨?_, ?_⟩
    · unfold ir_walked
      simp (disch := first | omega | (apply cmx <;> omega) | (apply dvok <;> omega) | decide | fail) only [runD, s_cons, s_nil, s_frz, s_fgt, seq_next, seq_ret, seq_err, s_ifs, if_t, if_f, s_fors, s_whl, s_asg, s_nm_fz, s_nm_fr, s_tp, s_ret, s_rse, s_put, s_app, s_ext, s_par, e_and, e_or, and_t, and_f, or_t, or_f, test_bl, e_lc, ev.eq_1, ev.eq_2, ev.eq_3, ev.eq_4, ev.eq_5, ev.eq_6, ev.eq_7, ev.eq_8, ev.eq_9, ev.eq_12, ev.eq_13, ev.eq_14, ev.eq_15, ev.eq_16, ev.eq_17, ev.eq_18, ev.eq_19, ev.eq_20, ev.eq_21, ev.eq_22, ev.eq_23, evs, evo, evIt, MP.R.bind_ok, MP.R.bind_err, notBo_fz, notBo_fr, retK_fz, retK_fr, retK_bo, noErr_ok, binD.eq_1, binD.eq_2, binD.eq_3, binD.eq_4, binD.eq_5, binD.eq_6, binD.eq_7, binD.eq_8, binD.eq_9, binD.eq_10, binD.eq_11, cmpD.eq_3, cmpD.eq_4, cmpD.eq_5, cmpD.eq_6, cmpD.eq_7, cmpD.eq_8, cmpD.eq_9, cmpD.eq_10, cmpD.eq_11, cmpD.eq_12, cmpD.eq_13, ixD.eq_1, ixD.eq_2, ixD.eq_3, ixD.eq_4, ixD.eq_5, biD.eq_1, biD.eq_2, biD.eq_3, biD.eq_4, biD.eq_5, biD.eq_6, biD.eq_7, biD.eq_8, biD.eq_9, biD.eq_10, biD.eq_11, biD.eq_12, biD.eq_13, biD.eq_14, biD.eq_15, biD.eq_16, biD.eq_17, biD.eq_18, biD.eq_19, biD.eq_20, biD.eq_21, biD.eq_22, biD.eq_23, slD.eq_1, slD.eq_2, slD.eq_3, negD.eq_1, isi_int_int, isi_int_bool, isi_str_str, isi_tup_tup, notBos, asInt, asStr, asDic, rOpt, optOk, callD, isBo, bindTg, bindSlots, wipeD, ownL, ownK, ownAt, appD, extD.eq_1, putD.eq_1, putD.eq_2, setOwn, freeze, itemsD.eq_1, itemsD.eq_2, itemsD.eq_3, rng1D.eq_1, rng2D.eq_1, small62, Int.toNat_natCast, turnF, turnL, cast0, cast1, cast2, cast3, cast4, decide_true, decide_false,  freeze, app_len, rep_len,  inD.eq_1, inD.eq_2, inD.eq_3, tyD, MP.isNon, optCons, grd_T, slots_cons, slots_nil, immut, immuts, Option.map_some, Option.map_none, Option.getD_some, Option.getD_none, Option.bind_some, List.getElem?_cons_zero, List.getElem?_cons_succ, List.set_cons_zero, List.set_cons_succ, List.map_cons, List.map_nil, List.any_cons, List.any_nil, List.length_cons, List.length_nil, Nat.reduceAdd, Nat.reduceSub, List.replicate_succ, List.replicate_zero, List.cons_append, List.nil_append, Bool.or_false, Bool.false_and, Bool.and_false, Bool.false_eq_true, if_false, if_true, reduceIte, Bool.not_true, Bool.not_false, ne_eq, not_false_eq_true, and_true, true_and, and_self, Int.reduceEq, Int.reduceNe, not_true_eq_false, Int.reduceToNat, Int.reducePow, Int.reduceMul, Int.reduceAdd, Int.reduceSub, Int.reduceNeg, Nat.reduceLT, okD_int, okD_non, okD_bl, eqD_int, cmp_eqI, cmp_neI, at_0, at_1, at_2, at_3, at_4, cut_1, k_is_is, k_is_nought, k_is_input, k_is_power, k_is_less, k_is_plus, k_is_minus, k_is_times, k_is_over, ki_is, k_nought_is, k_nought_nought, k_nought_input, k_nought_power, k_nought_less, k_nought_plus, k_nought_minus, k_nought_times, k_nought_over, ki_nought, k_input_is, k_input_nought, k_input_input, k_input_power, k_input_less, k_input_plus, k_input_minus, k_input_times, k_input_over, ki_input, k_power_is, k_power_nought, k_power_input, k_power_power, k_power_less, k_power_plus, k_power_minus, k_power_times, k_power_over, ki_power, k_less_is, k_less_nought, k_less_input, k_less_power, k_less_less, k_less_plus, k_less_minus, k_less_times, k_less_over, ki_less, ko_is, ko_nought, ko_input, ko_power, ko_less, ko_plus, ko_minus, ko_times, ko_over, ki_o, ep, Rk.d, Rk.parts, exFor, turnF, e1, e2, e3, e4, n1, n2, n3, n4, eo, evx, List.length_map, List.length_append, List.map_append, walkR, dd, d3, d4, timM, ovM, grd_pos]
    · simp only [walkR, Rk.size, dd, d3, d4, List.length_append, List.length_cons, List.length_nil]
      omega
end
end MPk07

namespace MPk07
open PySem PySem.Spec PyProof.Rows L2 MP
theorem ltimes_eq {one other : Ms} {by_ : Int} (n1 : (one.map (·.1)).Nodup) (l1 : one.length ≤ 100000) (l2 : other.length ≤ 100000) (b2 : ∀ p ∈ other, -(2 ^ 900) < p.2 ∧ p.2 < 2 ^ 900) (b3 : -(2 ^ 900) < by_ ∧ by_ < 2 ^ 900) :
    m__law_times [msD one, msD other, .int by_] = .ok (msD (madeM (addM one (scale by_ other))), .fz) := by
  have dl := dkI_len one
  unfold m__law_times ir__law_times msD
  simp (disch := first | omega | (apply cmx <;> omega) | (apply dvok <;> omega) | decide | fail) only [runD, s_cons, s_nil, s_frz, s_fgt, seq_next, seq_ret, seq_err, s_ifs, if_t, if_f, s_fors, s_whl, s_asg, s_nm_fz, s_nm_fr, s_tp, s_ret, s_rse, s_put, s_app, s_ext, s_par, e_and, e_or, and_t, and_f, or_t, or_f, test_bl, e_lc, ev.eq_1, ev.eq_2, ev.eq_3, ev.eq_4, ev.eq_5, ev.eq_6, ev.eq_7, ev.eq_8, ev.eq_9, ev.eq_12, ev.eq_13, ev.eq_14, ev.eq_15, ev.eq_16, ev.eq_17, ev.eq_18, ev.eq_19, ev.eq_20, ev.eq_21, ev.eq_22, ev.eq_23, evs, evo, evIt, MP.R.bind_ok, MP.R.bind_err, notBo_fz, notBo_fr, retK_fz, retK_fr, retK_bo, noErr_ok, binD.eq_1, binD.eq_2, binD.eq_3, binD.eq_4, binD.eq_5, binD.eq_6, binD.eq_7, binD.eq_8, binD.eq_9, binD.eq_10, binD.eq_11, cmpD.eq_1, cmpD.eq_2, cmpD.eq_3, cmpD.eq_4, cmpD.eq_5, cmpD.eq_6, cmpD.eq_7, cmpD.eq_8, cmpD.eq_9, cmpD.eq_10, cmpD.eq_11, cmpD.eq_12, cmpD.eq_13, ixD.eq_1, ixD.eq_2, ixD.eq_3, ixD.eq_4, ixD.eq_5, biD.eq_1, biD.eq_2, biD.eq_3, biD.eq_4, biD.eq_5, biD.eq_6, biD.eq_7, biD.eq_8, biD.eq_9, biD.eq_10, biD.eq_11, biD.eq_12, biD.eq_13, biD.eq_14, biD.eq_15, biD.eq_16, biD.eq_17, biD.eq_18, biD.eq_19, biD.eq_20, biD.eq_21, biD.eq_22, biD.eq_23, slD.eq_1, slD.eq_2, slD.eq_3, negD.eq_1, isi_int_int, isi_int_bool, isi_str_str, isi_tup_tup, notBos, asInt, asStr, asDic, rOpt, optOk, callD, isBo, bindTg, bindSlots, wipeD, ownL, ownK, ownAt, appD, extD.eq_1, putD.eq_1, putD.eq_2, setOwn, freeze, itemsD.eq_1, itemsD.eq_2, itemsD.eq_3, rng1D.eq_1, rng2D.eq_1, small62, Int.toNat_natCast, turnF, turnL, cast0, cast1, cast2, cast3, cast4, decide_true, decide_false,  freeze, app_len, rep_len,  inD.eq_1, inD.eq_2, inD.eq_3, tyD, MP.isNon, optCons, grd_T, slots_cons, slots_nil, immut, immuts, Option.map_some, Option.map_none, Option.getD_some, Option.getD_none, Option.bind_some, List.getElem?_cons_zero, List.getElem?_cons_succ, List.set_cons_zero, List.set_cons_succ, List.map_cons, List.map_nil, List.any_cons, List.any_nil, List.length_cons, List.length_nil, Nat.reduceAdd, Nat.reduceSub, List.replicate_succ, List.replicate_zero, List.cons_append, List.nil_append, Bool.or_false, Bool.false_and, Bool.and_false, Bool.false_eq_true, if_false, if_true, reduceIte, Bool.not_true, Bool.not_false, ne_eq, not_false_eq_true, and_true, true_and, and_self, Int.reduceEq, Int.reduceNe, not_true_eq_false, Int.reduceToNat, Int.reducePow, Int.reduceMul, Int.reduceAdd, Int.reduceSub, Int.reduceNeg, Nat.reduceLT, okD_int, okD_non, okD_bl, eqD_int, grd_pos, pairs_ms, dicOf_ms n1, dl]
  generalize hX : exFor _ _ _ _ = X
  refine for_inv hX (fun xs σ => ∃ (acc rs : Ms), xs = rs.map mpD ∧ σ = [some (.tup (one.map mpD), false), some (.tup (other.map mpD), false), some (.int by_, false), some (.dic (dkI acc), true), none, none] ∧ (acc.map (·.1)).Nodup ∧ addM acc (scale by_ rs) = addM one (scale by_ other) ∧ acc.length + rs.length ≤ 200000 ∧ ∀ p ∈ rs, p ∈ other)
    ⟨one, other, rfl, rfl, n1, rfl, by omega, fun _ h => h⟩ ?step ?rest
  case step =>
    clear hX
    rintro x xs σ ⟨acc, rs, e, rfl, hn, ht, hl, hm⟩
    cases rs with
    | nil => cases e
    | cons p rs =>
      rw [List.map_cons] at e
      cases e
      rw [List.length_cons] at hl
      have dl := dkI_len acc
      have hp := fun s i => dput_dkI (ks := acc) s i hn
      have hb := b2 p (hm p List.mem_cons_self)
      have cm : CMulX p.2 by_ := cmx (by omega) (by omega) (by omega) (by omega)
      unfold mpD
      simp (disch := first | omega | (apply cmx <;> omega) | (apply dvok <;> omega) | decide | fail) only [runD, s_cons, s_nil, s_frz, s_fgt, seq_next, seq_ret, seq_err, s_ifs, if_t, if_f, s_fors, s_whl, s_asg, s_nm_fz, s_nm_fr, s_tp, s_ret, s_rse, s_put, s_app, s_ext, s_par, e_and, e_or, and_t, and_f, or_t, or_f, test_bl, e_lc, ev.eq_1, ev.eq_2, ev.eq_3, ev.eq_4, ev.eq_5, ev.eq_6, ev.eq_7, ev.eq_8, ev.eq_9, ev.eq_12, ev.eq_13, ev.eq_14, ev.eq_15, ev.eq_16, ev.eq_17, ev.eq_18, ev.eq_19, ev.eq_20, ev.eq_21, ev.eq_22, ev.eq_23, evs, evo, evIt, MP.R.bind_ok, MP.R.bind_err, notBo_fz, notBo_fr, retK_fz, retK_fr, retK_bo, noErr_ok, binD.eq_1, binD.eq_2, binD.eq_3, binD.eq_4, binD.eq_5, binD.eq_6, binD.eq_7, binD.eq_8, binD.eq_9, binD.eq_10, binD.eq_11, cmpD.eq_1, cmpD.eq_2, cmpD.eq_3, cmpD.eq_4, cmpD.eq_5, cmpD.eq_6, cmpD.eq_7, cmpD.eq_8, cmpD.eq_9, cmpD.eq_10, cmpD.eq_11, cmpD.eq_12, cmpD.eq_13, ixD.eq_1, ixD.eq_2, ixD.eq_3, ixD.eq_4, ixD.eq_5, biD.eq_1, biD.eq_2, biD.eq_3, biD.eq_4, biD.eq_5, biD.eq_6, biD.eq_7, biD.eq_8, biD.eq_9, biD.eq_10, biD.eq_11, biD.eq_12, biD.eq_13, biD.eq_14, biD.eq_15, biD.eq_16, biD.eq_17, biD.eq_18, biD.eq_19, biD.eq_20, biD.eq_21, biD.eq_22, biD.eq_23, slD.eq_1, slD.eq_2, slD.eq_3, negD.eq_1, isi_int_int, isi_int_bool, isi_str_str, isi_tup_tup, notBos, asInt, asStr, asDic, rOpt, optOk, callD, isBo, bindTg, bindSlots, wipeD, ownL, ownK, ownAt, appD, extD.eq_1, putD.eq_1, putD.eq_2, setOwn, freeze, itemsD.eq_1, itemsD.eq_2, itemsD.eq_3, rng1D.eq_1, rng2D.eq_1, small62, Int.toNat_natCast, turnF, turnL, cast0, cast1, cast2, cast3, cast4, decide_true, decide_false,  freeze, app_len, rep_len,  inD.eq_1, inD.eq_2, inD.eq_3, tyD, MP.isNon, optCons, grd_T, slots_cons, slots_nil, immut, immuts, Option.map_some, Option.map_none, Option.getD_some, Option.getD_none, Option.bind_some, List.getElem?_cons_zero, List.getElem?_cons_succ, List.set_cons_zero, List.set_cons_succ, List.map_cons, List.map_nil, List.any_cons, List.any_nil, List.length_cons, List.length_nil, Nat.reduceAdd, Nat.reduceSub, List.replicate_succ, List.replicate_zero, List.cons_append, List.nil_append, Bool.or_false, Bool.false_and, Bool.and_false, Bool.false_eq_true, if_false, if_true, reduceIte, Bool.not_true, Bool.not_false, ne_eq, not_false_eq_true, and_true, true_and, and_self, Int.reduceEq, Int.reduceNe, not_true_eq_false, Int.reduceToNat, Int.reducePow, Int.reduceMul, Int.reduceAdd, Int.reduceSub, Int.reduceNeg, Nat.reduceLT, okD_int, okD_non, okD_bl, eqD_int, grd_pos, getd_dkI, dl, hp, cm]
      refine ⟨_, rfl, iput acc p.1 (total acc p.1 + p.2 * by_), rs, rfl, rfl, iput_nodup _ _ hn, ht, ?_, fun q hq => hm q (List.mem_cons_of_mem _ hq)⟩
      have := iput_len acc p.1 (total acc p.1 + p.2 * by_)
      omega
  case rest =>
    rintro σ' ⟨acc, rs, e, rfl, hn, ht, hl, hm⟩ rfl
    have er : rs = [] := List.map_eq_nil_iff.mp e.symm
    subst er
    have ht : acc = addM one (scale by_ other) := ht
    subst ht
    have hl : (addM one (scale by_ other)).length ≤ 200000 := by simpa using hl
    simp (disch := first | omega | (apply cmx <;> omega) | (apply dvok <;> omega) | decide | fail) only [runD, s_cons, s_nil, s_frz, s_fgt, seq_next, seq_ret, seq_err, s_ifs, if_t, if_f, s_fors, s_whl, s_asg, s_nm_fz, s_nm_fr, s_tp, s_ret, s_rse, s_put, s_app, s_ext, s_par, e_and, e_or, and_t, and_f, or_t, or_f, test_bl, e_lc, ev.eq_1, ev.eq_2, ev.eq_3, ev.eq_4, ev.eq_5, ev.eq_6, ev.eq_7, ev.eq_8, ev.eq_9, ev.eq_12, ev.eq_13, ev.eq_14, ev.eq_15, ev.eq_16, ev.eq_17, ev.eq_18, ev.eq_19, ev.eq_20, ev.eq_21, ev.eq_22, ev.eq_23, evs, evo, evIt, MP.R.bind_ok, MP.R.bind_err, notBo_fz, notBo_fr, retK_fz, retK_fr, retK_bo, noErr_ok, binD.eq_1, binD.eq_2, binD.eq_3, binD.eq_4, binD.eq_5, binD.eq_6, binD.eq_7, binD.eq_8, binD.eq_9, binD.eq_10, binD.eq_11, cmpD.eq_1, cmpD.eq_2, cmpD.eq_3, cmpD.eq_4, cmpD.eq_5, cmpD.eq_6, cmpD.eq_7, cmpD.eq_8, cmpD.eq_9, cmpD.eq_10, cmpD.eq_11, cmpD.eq_12, cmpD.eq_13, ixD.eq_1, ixD.eq_2, ixD.eq_3, ixD.eq_4, ixD.eq_5, biD.eq_1, biD.eq_2, biD.eq_3, biD.eq_4, biD.eq_5, biD.eq_6, biD.eq_7, biD.eq_8, biD.eq_9, biD.eq_10, biD.eq_11, biD.eq_12, biD.eq_13, biD.eq_14, biD.eq_15, biD.eq_16, biD.eq_17, biD.eq_18, biD.eq_19, biD.eq_20, biD.eq_21, biD.eq_22, biD.eq_23, slD.eq_1, slD.eq_2, slD.eq_3, negD.eq_1, isi_int_int, isi_int_bool, isi_str_str, isi_tup_tup, notBos, asInt, asStr, asDic, rOpt, optOk, callD, isBo, bindTg, bindSlots, wipeD, ownL, ownK, ownAt, appD, extD.eq_1, putD.eq_1, putD.eq_2, setOwn, freeze, itemsD.eq_1, itemsD.eq_2, itemsD.eq_3, rng1D.eq_1, rng2D.eq_1, small62, Int.toNat_natCast, turnF, turnL, cast0, cast1, cast2, cast3, cast4, decide_true, decide_false,  freeze, app_len, rep_len,  inD.eq_1, inD.eq_2, inD.eq_3, tyD, MP.isNon, optCons, grd_T, slots_cons, slots_nil, immut, immuts, Option.map_some, Option.map_none, Option.getD_some, Option.getD_none, Option.bind_some, List.getElem?_cons_zero, List.getElem?_cons_succ, List.set_cons_zero, List.set_cons_succ, List.map_cons, List.map_nil, List.any_cons, List.any_nil, List.length_cons, List.length_nil, Nat.reduceAdd, Nat.reduceSub, List.replicate_succ, List.replicate_zero, List.cons_append, List.nil_append, Bool.or_false, Bool.false_and, Bool.and_false, Bool.false_eq_true, if_false, if_true, reduceIte, Bool.not_true, Bool.not_false, ne_eq, not_false_eq_true, and_true, true_and, and_self, Int.reduceEq, Int.reduceNe, not_true_eq_false, Int.reduceToNat, Int.reducePow, Int.reduceMul, Int.reduceAdd, Int.reduceSub, Int.reduceNeg, Nat.reduceLT, okD_int, okD_non, okD_bl, eqD_int, lmade_eq, grd_pos]
    rfl
/-- the three ways that a walk uses it -/
theorem lt_tim {a b : Ms} (ha : Meas a) (la : a.length ≤ 100000) (lb : b.length ≤ 100000) (bb : ∀ p ∈ b, -(2 ^ 900) < p.2 ∧ p.2 < 2 ^ 900) : m__law_times [msD a, msD b, .int 1] = .ok (msD (timM a b), .fz) := by
  rw [ltimes_eq ha.nodup la lb bb (by decide), scale_one]
  rfl
theorem lt_ov {a b : Ms} (ha : Meas a) (la : a.length ≤ 100000) (lb : b.length ≤ 100000) (bb : ∀ p ∈ b, -(2 ^ 900) < p.2 ∧ p.2 < 2 ^ 900) : m__law_times [msD a, msD b, .int (-1)] = .ok (msD (ovM a b), .fz) := by
  rw [ltimes_eq ha.nodup la lb bb (by decide)]
  rfl
theorem lt_pow {b : Ms} {n : Int} (hb : Meas b) (hn : -4 ≤ n ∧ n ≤ 4) (lb : b.length ≤ 100000) (bb : ∀ p ∈ b, -(2 ^ 900) < p.2 ∧ p.2 < 2 ^ 900) : m__law_times [.tup [], msD b, .int n] = .ok (msD (powM n b), .fz) := by
  have e : m__law_times [.tup [], msD b, .int n] = _ := ltimes_eq (one := []) (other := b) (by_ := n) (by simp) (by simp) lb bb (by constructor <;> omega)
  rw [e]
  have h := due_nil (n := n) hb
  rw [← h]
  rfl
section
variable {l : Nat} {c : Int} {N : Str → Prop} {nm : Str → Ms} {ks : List (Str × D)}
theorem cut_ms (G : List Ms) (n : Nat) (h : n ≤ G.length) : cutL (G.map msD) (some (n : Int)) none = (G.drop n).map msD := by
  rw [cut_from _ _ (by rw [List.length_map]; exact h), List.map_drop]
theorem lwalk_eq (hc : 0 ≤ c) (hl8 : l ≤ 8) (hc9 : c ≤ 1000000000) (hn : ∀ s, N s → Bm l c (nm s)) (hk : ∀ s, N s → dget ks s = some (msD (nm s))) : ∀ (r : Rk) (k : Nat) (G : List Ms), (∀ g ∈ G, Bm l c g) → G.length ≤ 4000 → r.ht < k → r.ht ≤ 12 → r.Ok l c N → r.nn ≤ G.length → r.size ≤ 4000 →
    m__law_walk k [r.d, .dic ks, .lst (G.map msD)] = .ok (.tup [msD (walkR r nm G).1, .lst ((walkR r nm G).2.map msD)], .fz) ∧ (walkR r nm G).2.length ≤ 2 * r.size
  | r, 0, G, _, _, h, _, _, _, _ => absurd h (Nat.not_lt_zero _)
  | .is p m, k + 1, G, hG, lG, h, h12, ok, hi, hs => by
    show runD 7 (ir__law_walk (m__law_walk k)) _ = _ ∧ _
    refine ⟨?_, by simp [walkR]⟩
    unfold ir__law_walk
    simp (disch := first | omega | (apply cmx <;> omega) | (apply dvok <;> omega) | decide | fail) only [runD, s_cons, s_nil, s_frz, s_fgt, seq_next, seq_ret, seq_err, s_ifs, if_t, if_f, s_fors, s_whl, s_asg, s_nm_fz, s_nm_fr, s_tp, s_ret, s_rse, s_put, s_app, s_ext, s_par, e_and, e_or, and_t, and_f, or_t, or_f, test_bl, e_lc, ev.eq_1, ev.eq_2, ev.eq_3, ev.eq_4, ev.eq_5, ev.eq_6, ev.eq_7, ev.eq_8, ev.eq_9, ev.eq_12, ev.eq_13, ev.eq_14, ev.eq_15, ev.eq_16, ev.eq_17, ev.eq_18, ev.eq_19, ev.eq_20, ev.eq_21, ev.eq_22, ev.eq_23, evs, evo, evIt, MP.R.bind_ok, MP.R.bind_err, notBo_fz, notBo_fr, retK_fz, retK_fr, retK_bo, noErr_ok, binD.eq_1, binD.eq_2, binD.eq_3, binD.eq_4, binD.eq_5, binD.eq_6, binD.eq_7, binD.eq_8, binD.eq_9, binD.eq_10, binD.eq_11, cmpD.eq_3, cmpD.eq_4, cmpD.eq_5, cmpD.eq_6, cmpD.eq_7, cmpD.eq_8, cmpD.eq_9, cmpD.eq_10, cmpD.eq_11, cmpD.eq_12, cmpD.eq_13, ixD.eq_1, ixD.eq_2, ixD.eq_3, ixD.eq_4, ixD.eq_5, biD.eq_1, biD.eq_2, biD.eq_3, biD.eq_4, biD.eq_5, biD.eq_6, biD.eq_7, biD.eq_8, biD.eq_9, biD.eq_10, biD.eq_11, biD.eq_12, biD.eq_13, biD.eq_14, biD.eq_15, biD.eq_16, biD.eq_17, biD.eq_18, biD.eq_19, biD.eq_20, biD.eq_21, biD.eq_22, biD.eq_23, slD.eq_1, slD.eq_2, slD.eq_3, negD.eq_1, isi_int_int, isi_int_bool, isi_str_str, isi_tup_tup, notBos, asInt, asStr, asDic, rOpt, optOk, callD, isBo, bindTg, bindSlots, wipeD, ownL, ownK, ownAt, appD, extD.eq_1, putD.eq_1, putD.eq_2, setOwn, freeze, itemsD.eq_1, itemsD.eq_2, itemsD.eq_3, rng1D.eq_1, rng2D.eq_1, small62, Int.toNat_natCast, turnF, turnL, cast0, cast1, cast2, cast3, cast4, decide_true, decide_false,  freeze, app_len, rep_len,  inD.eq_1, inD.eq_2, inD.eq_3, tyD, MP.isNon, optCons, grd_T, slots_cons, slots_nil, immut, immuts, Option.map_some, Option.map_none, Option.getD_some, Option.getD_none, Option.bind_some, List.getElem?_cons_zero, List.getElem?_cons_succ, List.set_cons_zero, List.set_cons_succ, List.map_cons, List.map_nil, List.any_cons, List.any_nil, List.length_cons, List.length_nil, Nat.reduceAdd, Nat.reduceSub, List.replicate_succ, List.replicate_zero, List.cons_append, List.nil_append, Bool.or_false, Bool.false_and, Bool.and_false, Bool.false_eq_true, if_false, if_true, reduceIte, Bool.not_true, Bool.not_false, ne_eq, not_false_eq_true, and_true, true_and, and_self, Int.reduceEq, Int.reduceNe, not_true_eq_false, Int.reduceToNat, Int.reducePow, Int.reduceMul, Int.reduceAdd, Int.reduceSub, Int.reduceNeg, Nat.reduceLT, okD_int, okD_non, okD_bl, eqD_int, cmp_eqI, cmp_neI, at_0, at_1, at_2, at_3, at_4, cut_1, k_is_is, k_is_nought, k_is_input, k_is_power, k_is_less, k_is_plus, k_is_minus, k_is_times, k_is_over, ki_is, k_nought_is, k_nought_nought, k_nought_input, k_nought_power, k_nought_less, k_nought_plus, k_nought_minus, k_nought_times, k_nought_over, ki_nought, k_input_is, k_input_nought, k_input_input, k_input_power, k_input_less, k_input_plus, k_input_minus, k_input_times, k_input_over, ki_input, k_power_is, k_power_nought, k_power_input, k_power_power, k_power_less, k_power_plus, k_power_minus, k_power_times, k_power_over, ki_power, k_less_is, k_less_nought, k_less_input, k_less_power, k_less_less, k_less_plus, k_less_minus, k_less_times, k_less_over, ki_less, ko_is, ko_nought, ko_input, ko_power, ko_less, ko_plus, ko_minus, ko_times, ko_over, ki_o, Rk.d, walkR, grd_pos]
  | .nought, k + 1, G, hG, lG, h, h12, ok, hi, hs => by
    show runD 7 (ir__law_walk (m__law_walk k)) _ = _ ∧ _
    refine ⟨?_, by simp [walkR]⟩
    simp only [Rk.nn] at hi
    have eh := hd_of (G := G) (i := 0) (by omega)
    have ei : atI (G.map msD) 0 = (G.map msD)[0]? := MP.atI_nat _ 0
    unfold ir__law_walk
    simp (disch := first | omega | (apply cmx <;> omega) | (apply dvok <;> omega) | decide | fail) only [runD, s_cons, s_nil, s_frz, s_fgt, seq_next, seq_ret, seq_err, s_ifs, if_t, if_f, s_fors, s_whl, s_asg, s_nm_fz, s_nm_fr, s_tp, s_ret, s_rse, s_put, s_app, s_ext, s_par, e_and, e_or, and_t, and_f, or_t, or_f, test_bl, e_lc, ev.eq_1, ev.eq_2, ev.eq_3, ev.eq_4, ev.eq_5, ev.eq_6, ev.eq_7, ev.eq_8, ev.eq_9, ev.eq_12, ev.eq_13, ev.eq_14, ev.eq_15, ev.eq_16, ev.eq_17, ev.eq_18, ev.eq_19, ev.eq_20, ev.eq_21, ev.eq_22, ev.eq_23, evs, evo, evIt, MP.R.bind_ok, MP.R.bind_err, notBo_fz, notBo_fr, retK_fz, retK_fr, retK_bo, noErr_ok, binD.eq_1, binD.eq_2, binD.eq_3, binD.eq_4, binD.eq_5, binD.eq_6, binD.eq_7, binD.eq_8, binD.eq_9, binD.eq_10, binD.eq_11, cmpD.eq_3, cmpD.eq_4, cmpD.eq_5, cmpD.eq_6, cmpD.eq_7, cmpD.eq_8, cmpD.eq_9, cmpD.eq_10, cmpD.eq_11, cmpD.eq_12, cmpD.eq_13, ixD.eq_1, ixD.eq_2, ixD.eq_3, ixD.eq_4, ixD.eq_5, biD.eq_1, biD.eq_2, biD.eq_3, biD.eq_4, biD.eq_5, biD.eq_6, biD.eq_7, biD.eq_8, biD.eq_9, biD.eq_10, biD.eq_11, biD.eq_12, biD.eq_13, biD.eq_14, biD.eq_15, biD.eq_16, biD.eq_17, biD.eq_18, biD.eq_19, biD.eq_20, biD.eq_21, biD.eq_22, biD.eq_23, slD.eq_1, slD.eq_2, slD.eq_3, negD.eq_1, isi_int_int, isi_int_bool, isi_str_str, isi_tup_tup, notBos, asInt, asStr, asDic, rOpt, optOk, callD, isBo, bindTg, bindSlots, wipeD, ownL, ownK, ownAt, appD, extD.eq_1, putD.eq_1, putD.eq_2, setOwn, freeze, itemsD.eq_1, itemsD.eq_2, itemsD.eq_3, rng1D.eq_1, rng2D.eq_1, small62, Int.toNat_natCast, turnF, turnL, cast0, cast1, cast2, cast3, cast4, decide_true, decide_false,  freeze, app_len, rep_len,  inD.eq_1, inD.eq_2, inD.eq_3, tyD, MP.isNon, optCons, grd_T, slots_cons, slots_nil, immut, immuts, Option.map_some, Option.map_none, Option.getD_some, Option.getD_none, Option.bind_some, List.getElem?_cons_zero, List.getElem?_cons_succ, List.set_cons_zero, List.set_cons_succ, List.map_cons, List.map_nil, List.any_cons, List.any_nil, List.length_cons, List.length_nil, Nat.reduceAdd, Nat.reduceSub, List.replicate_succ, List.replicate_zero, List.cons_append, List.nil_append, Bool.or_false, Bool.false_and, Bool.and_false, Bool.false_eq_true, if_false, if_true, reduceIte, Bool.not_true, Bool.not_false, ne_eq, not_false_eq_true, and_true, true_and, and_self, Int.reduceEq, Int.reduceNe, not_true_eq_false, Int.reduceToNat, Int.reducePow, Int.reduceMul, Int.reduceAdd, Int.reduceSub, Int.reduceNeg, Nat.reduceLT, okD_int, okD_non, okD_bl, eqD_int, cmp_eqI, cmp_neI, at_0, at_1, at_2, at_3, at_4, cut_1, k_is_is, k_is_nought, k_is_input, k_is_power, k_is_less, k_is_plus, k_is_minus, k_is_times, k_is_over, ki_is, k_nought_is, k_nought_nought, k_nought_input, k_nought_power, k_nought_less, k_nought_plus, k_nought_minus, k_nought_times, k_nought_over, ki_nought, k_input_is, k_input_nought, k_input_input, k_input_power, k_input_less, k_input_plus, k_input_minus, k_input_times, k_input_over, ki_input, k_power_is, k_power_nought, k_power_input, k_power_power, k_power_less, k_power_plus, k_power_minus, k_power_times, k_power_over, ki_power, k_less_is, k_less_nought, k_less_input, k_less_power, k_less_less, k_less_plus, k_less_minus, k_less_times, k_less_over, ki_less, ko_is, ko_nought, ko_input, ko_power, ko_less, ko_plus, ko_minus, ko_times, ko_over, ki_o, Rk.d, walkR, ei, eh, List.drop_zero, grd_pos]
  | .input s, k + 1, G, hG, lG, h, h12, ok, hi, hs => by
    show runD 7 (ir__law_walk (m__law_walk k)) _ = _ ∧ _
    refine ⟨?_, by simp [walkR]⟩
    have e := hk s ok
    unfold ir__law_walk
    simp (disch := first | omega | (apply cmx <;> omega) | (apply dvok <;> omega) | decide | fail) only [runD, s_cons, s_nil, s_frz, s_fgt, seq_next, seq_ret, seq_err, s_ifs, if_t, if_f, s_fors, s_whl, s_asg, s_nm_fz, s_nm_fr, s_tp, s_ret, s_rse, s_put, s_app, s_ext, s_par, e_and, e_or, and_t, and_f, or_t, or_f, test_bl, e_lc, ev.eq_1, ev.eq_2, ev.eq_3, ev.eq_4, ev.eq_5, ev.eq_6, ev.eq_7, ev.eq_8, ev.eq_9, ev.eq_12, ev.eq_13, ev.eq_14, ev.eq_15, ev.eq_16, ev.eq_17, ev.eq_18, ev.eq_19, ev.eq_20, ev.eq_21, ev.eq_22, ev.eq_23, evs, evo, evIt, MP.R.bind_ok, MP.R.bind_err, notBo_fz, notBo_fr, retK_fz, retK_fr, retK_bo, noErr_ok, binD.eq_1, binD.eq_2, binD.eq_3, binD.eq_4, binD.eq_5, binD.eq_6, binD.eq_7, binD.eq_8, binD.eq_9, binD.eq_10, binD.eq_11, cmpD.eq_3, cmpD.eq_4, cmpD.eq_5, cmpD.eq_6, cmpD.eq_7, cmpD.eq_8, cmpD.eq_9, cmpD.eq_10, cmpD.eq_11, cmpD.eq_12, cmpD.eq_13, ixD.eq_1, ixD.eq_2, ixD.eq_3, ixD.eq_4, ixD.eq_5, biD.eq_1, biD.eq_2, biD.eq_3, biD.eq_4, biD.eq_5, biD.eq_6, biD.eq_7, biD.eq_8, biD.eq_9, biD.eq_10, biD.eq_11, biD.eq_12, biD.eq_13, biD.eq_14, biD.eq_15, biD.eq_16, biD.eq_17, biD.eq_18, biD.eq_19, biD.eq_20, biD.eq_21, biD.eq_22, biD.eq_23, slD.eq_1, slD.eq_2, slD.eq_3, negD.eq_1, isi_int_int, isi_int_bool, isi_str_str, isi_tup_tup, notBos, asInt, asStr, asDic, rOpt, optOk, callD, isBo, bindTg, bindSlots, wipeD, ownL, ownK, ownAt, appD, extD.eq_1, putD.eq_1, putD.eq_2, setOwn, freeze, itemsD.eq_1, itemsD.eq_2, itemsD.eq_3, rng1D.eq_1, rng2D.eq_1, small62, Int.toNat_natCast, turnF, turnL, cast0, cast1, cast2, cast3, cast4, decide_true, decide_false,  freeze, app_len, rep_len,  inD.eq_1, inD.eq_2, inD.eq_3, tyD, MP.isNon, optCons, grd_T, slots_cons, slots_nil, immut, immuts, Option.map_some, Option.map_none, Option.getD_some, Option.getD_none, Option.bind_some, List.getElem?_cons_zero, List.getElem?_cons_succ, List.set_cons_zero, List.set_cons_succ, List.map_cons, List.map_nil, List.any_cons, List.any_nil, List.length_cons, List.length_nil, Nat.reduceAdd, Nat.reduceSub, List.replicate_succ, List.replicate_zero, List.cons_append, List.nil_append, Bool.or_false, Bool.false_and, Bool.and_false, Bool.false_eq_true, if_false, if_true, reduceIte, Bool.not_true, Bool.not_false, ne_eq, not_false_eq_true, and_true, true_and, and_self, Int.reduceEq, Int.reduceNe, not_true_eq_false, Int.reduceToNat, Int.reducePow, Int.reduceMul, Int.reduceAdd, Int.reduceSub, Int.reduceNeg, Nat.reduceLT, okD_int, okD_non, okD_bl, eqD_int, cmp_eqI, cmp_neI, at_0, at_1, at_2, at_3, at_4, cut_1, k_is_is, k_is_nought, k_is_input, k_is_power, k_is_less, k_is_plus, k_is_minus, k_is_times, k_is_over, ki_is, k_nought_is, k_nought_nought, k_nought_input, k_nought_power, k_nought_less, k_nought_plus, k_nought_minus, k_nought_times, k_nought_over, ki_nought, k_input_is, k_input_nought, k_input_input, k_input_power, k_input_less, k_input_plus, k_input_minus, k_input_times, k_input_over, ki_input, k_power_is, k_power_nought, k_power_input, k_power_power, k_power_less, k_power_plus, k_power_minus, k_power_times, k_power_over, ki_power, k_less_is, k_less_nought, k_less_input, k_less_power, k_less_less, k_less_plus, k_less_minus, k_less_times, k_less_over, ki_less, ko_is, ko_nought, ko_input, ko_power, ko_less, ko_plus, ko_minus, ko_times, ko_over, ki_o, Rk.d, walkR, e, grd_pos]
  | .pw a n, k + 1, G, hG, lG, h, h12, ok, hi, hs => by
    show runD 7 (ir__law_walk (m__law_walk k)) _ = _ ∧ _
    simp only [Rk.ht] at h h12
    simp only [Rk.nn] at hi
    simp only [Rk.size] at hs
    simp only [Rk.Ok] at ok
    have ep := lparts_eq (.pw a n)
    simp only [Rk.d, Rk.parts, List.map_cons, List.map_nil] at ep
    obtain ⟨e1, l1⟩ := lwalk_eq hc hl8 hc9 hn hk a k G hG lG (by omega) (by omega) ok.1 hi (by omega)
    have b1 := (walk_bm hc hn a G hG ok.1).1.use hl8 hc9 (by omega) hc
    have en := lnoughts_eq a 20 (by omega)
    have ew := lt_pow (b := (walkR a nm G).1) (n := n) b1.1 ok.2 b1.2.1 b1.2.2
    have cu := cut_ms G a.nn hi
    refine ⟨?_, by simp only [walkR, Rk.size]; omega⟩
    unfold ir__law_walk
    simp (disch := first | omega | (apply cmx <;> omega) | (apply dvok <;> omega) | decide | fail) only [runD, s_cons, s_nil, s_frz, s_fgt, seq_next, seq_ret, seq_err, s_ifs, if_t, if_f, s_fors, s_whl, s_asg, s_nm_fz, s_nm_fr, s_tp, s_ret, s_rse, s_put, s_app, s_ext, s_par, e_and, e_or, and_t, and_f, or_t, or_f, test_bl, e_lc, ev.eq_1, ev.eq_2, ev.eq_3, ev.eq_4, ev.eq_5, ev.eq_6, ev.eq_7, ev.eq_8, ev.eq_9, ev.eq_12, ev.eq_13, ev.eq_14, ev.eq_15, ev.eq_16, ev.eq_17, ev.eq_18, ev.eq_19, ev.eq_20, ev.eq_21, ev.eq_22, ev.eq_23, evs, evo, evIt, MP.R.bind_ok, MP.R.bind_err, notBo_fz, notBo_fr, retK_fz, retK_fr, retK_bo, noErr_ok, binD.eq_1, binD.eq_2, binD.eq_3, binD.eq_4, binD.eq_5, binD.eq_6, binD.eq_7, binD.eq_8, binD.eq_9, binD.eq_10, binD.eq_11, cmpD.eq_3, cmpD.eq_4, cmpD.eq_5, cmpD.eq_6, cmpD.eq_7, cmpD.eq_8, cmpD.eq_9, cmpD.eq_10, cmpD.eq_11, cmpD.eq_12, cmpD.eq_13, ixD.eq_1, ixD.eq_2, ixD.eq_3, ixD.eq_4, ixD.eq_5, biD.eq_1, biD.eq_2, biD.eq_3, biD.eq_4, biD.eq_5, biD.eq_6, biD.eq_7, biD.eq_8, biD.eq_9, biD.eq_10, biD.eq_11, biD.eq_12, biD.eq_13, biD.eq_14, biD.eq_15, biD.eq_16, biD.eq_17, biD.eq_18, biD.eq_19, biD.eq_20, biD.eq_21, biD.eq_22, biD.eq_23, slD.eq_1, slD.eq_2, slD.eq_3, negD.eq_1, isi_int_int, isi_int_bool, isi_str_str, isi_tup_tup, notBos, asInt, asStr, asDic, rOpt, optOk, callD, isBo, bindTg, bindSlots, wipeD, ownL, ownK, ownAt, appD, extD.eq_1, putD.eq_1, putD.eq_2, setOwn, freeze, itemsD.eq_1, itemsD.eq_2, itemsD.eq_3, rng1D.eq_1, rng2D.eq_1, small62, Int.toNat_natCast, turnF, turnL, cast0, cast1, cast2, cast3, cast4, decide_true, decide_false,  freeze, app_len, rep_len,  inD.eq_1, inD.eq_2, inD.eq_3, tyD, MP.isNon, optCons, grd_T, slots_cons, slots_nil, immut, immuts, Option.map_some, Option.map_none, Option.getD_some, Option.getD_none, Option.bind_some, List.getElem?_cons_zero, List.getElem?_cons_succ, List.set_cons_zero, List.set_cons_succ, List.map_cons, List.map_nil, List.any_cons, List.any_nil, List.length_cons, List.length_nil, Nat.reduceAdd, Nat.reduceSub, List.replicate_succ, List.replicate_zero, List.cons_append, List.nil_append, Bool.or_false, Bool.false_and, Bool.and_false, Bool.false_eq_true, if_false, if_true, reduceIte, Bool.not_true, Bool.not_false, ne_eq, not_false_eq_true, and_true, true_and, and_self, Int.reduceEq, Int.reduceNe, not_true_eq_false, Int.reduceToNat, Int.reducePow, Int.reduceMul, Int.reduceAdd, Int.reduceSub, Int.reduceNeg, Nat.reduceLT, okD_int, okD_non, okD_bl, eqD_int, cmp_eqI, cmp_neI, at_0, at_1, at_2, at_3, at_4, cut_1, k_is_is, k_is_nought, k_is_input, k_is_power, k_is_less, k_is_plus, k_is_minus, k_is_times, k_is_over, ki_is, k_nought_is, k_nought_nought, k_nought_input, k_nought_power, k_nought_less, k_nought_plus, k_nought_minus, k_nought_times, k_nought_over, ki_nought, k_input_is, k_input_nought, k_input_input, k_input_power, k_input_less, k_input_plus, k_input_minus, k_input_times, k_input_over, ki_input, k_power_is, k_power_nought, k_power_input, k_power_power, k_power_less, k_power_plus, k_power_minus, k_power_times, k_power_over, ki_power, k_less_is, k_less_nought, k_less_input, k_less_power, k_less_less, k_less_plus, k_less_minus, k_less_times, k_less_over, ki_less, ko_is, ko_nought, ko_input, ko_power, ko_less, ko_plus, ko_minus, ko_times, ko_over, ki_o, ep, Rk.d, Rk.parts, exFor, turnF, e1, en, ew, cu, List.length_map, List.length_append, walkR, grd_pos]
  | .bin o a b, k + 1, G, hG, lG, h, h12, ok, hi, hs => by
    show runD 7 (ir__law_walk (m__law_walk k)) _ = _ ∧ _
    simp only [Rk.ht] at h h12
    simp only [Rk.nn] at hi
    simp only [Rk.size] at hs
    simp only [Rk.Ok] at ok
    have hd : ∀ i, ∀ g ∈ G.drop i, Bm l c g := fun i g hg => hG g (List.mem_of_mem_drop hg)
    have ld : ∀ i, (G.drop i).length = G.length - i := fun i => List.length_drop
    have ep := lparts_eq (.bin o a b)
    simp only [Rk.d, Rk.parts, List.map_cons, List.map_nil] at ep
    obtain ⟨e1, l1⟩ := lwalk_eq hc hl8 hc9 hn hk a k G hG lG (by omega) (by omega) ok.1 (by omega) (by omega)
    obtain ⟨e2, l2⟩ := lwalk_eq hc hl8 hc9 hn hk b k (G.drop a.nn) (hd _) (by rw [ld]; omega) (by omega) (by omega) ok.2 (by rw [ld]; omega) (by omega)
    have b1 := (walk_bm hc hn a G hG ok.1).1.use hl8 hc9 (by omega) hc
    have b2 := (walk_bm hc hn b (G.drop a.nn) (hd _) ok.2).1.use hl8 hc9 (by omega) hc
    have n1 := lnoughts_eq a 20 (by omega)
    have n2 := lnoughts_eq b 20 (by omega)
    have et := lt_tim (a := (walkR a nm G).1) (b := (walkR b nm (G.drop a.nn)).1) b1.1 b1.2.1 b2.2.1 b2.2.2
    have eo := lt_ov (a := (walkR a nm G).1) (b := (walkR b nm (G.drop a.nn)).1) b1.1 b1.2.1 b2.2.1 b2.2.2
    have cu := cut_ms G a.nn (by omega)
    have cv := cut_ms (G.drop a.nn) b.nn (by rw [ld]; omega)
    refine ⟨?_, ?_⟩
    · unfold ir__law_walk
      cases o <;> simp (disch := first | omega | (apply cmx <;> omega) | (apply dvok <;> omega) | decide | fail) only [runD, s_cons, s_nil, s_frz, s_fgt, seq_next, seq_ret, seq_err, s_ifs, if_t, if_f, s_fors, s_whl, s_asg, s_nm_fz, s_nm_fr, s_tp, s_ret, s_rse, s_put, s_app, s_ext, s_par, e_and, e_or, and_t, and_f, or_t, or_f, test_bl, e_lc, ev.eq_1, ev.eq_2, ev.eq_3, ev.eq_4, ev.eq_5, ev.eq_6, ev.eq_7, ev.eq_8, ev.eq_9, ev.eq_12, ev.eq_13, ev.eq_14, ev.eq_15, ev.eq_16, ev.eq_17, ev.eq_18, ev.eq_19, ev.eq_20, ev.eq_21, ev.eq_22, ev.eq_23, evs, evo, evIt, MP.R.bind_ok, MP.R.bind_err, notBo_fz, notBo_fr, retK_fz, retK_fr, retK_bo, noErr_ok, binD.eq_1, binD.eq_2, binD.eq_3, binD.eq_4, binD.eq_5, binD.eq_6, binD.eq_7, binD.eq_8, binD.eq_9, binD.eq_10, binD.eq_11, cmpD.eq_3, cmpD.eq_4, cmpD.eq_5, cmpD.eq_6, cmpD.eq_7, cmpD.eq_8, cmpD.eq_9, cmpD.eq_10, cmpD.eq_11, cmpD.eq_12, cmpD.eq_13, ixD.eq_1, ixD.eq_2, ixD.eq_3, ixD.eq_4, ixD.eq_5, biD.eq_1, biD.eq_2, biD.eq_3, biD.eq_4, biD.eq_5, biD.eq_6, biD.eq_7, biD.eq_8, biD.eq_9, biD.eq_10, biD.eq_11, biD.eq_12, biD.eq_13, biD.eq_14, biD.eq_15, biD.eq_16, biD.eq_17, biD.eq_18, biD.eq_19, biD.eq_20, biD.eq_21, biD.eq_22, biD.eq_23, slD.eq_1, slD.eq_2, slD.eq_3, negD.eq_1, isi_int_int, isi_int_bool, isi_str_str, isi_tup_tup, notBos, asInt, asStr, asDic, rOpt, optOk, callD, isBo, bindTg, bindSlots, wipeD, ownL, ownK, ownAt, appD, extD.eq_1, putD.eq_1, putD.eq_2, setOwn, freeze, itemsD.eq_1, itemsD.eq_2, itemsD.eq_3, rng1D.eq_1, rng2D.eq_1, small62, Int.toNat_natCast, turnF, turnL, cast0, cast1, cast2, cast3, cast4, decide_true, decide_false,  freeze, app_len, rep_len,  inD.eq_1, inD.eq_2, inD.eq_3, tyD, MP.isNon, optCons, grd_T, slots_cons, slots_nil, immut, immuts, Option.map_some, Option.map_none, Option.getD_some, Option.getD_none, Option.bind_some, List.getElem?_cons_zero, List.getElem?_cons_succ, List.set_cons_zero, List.set_cons_succ, List.map_cons, List.map_nil, List.any_cons, List.any_nil, List.length_cons, List.length_nil, Nat.reduceAdd, Nat.reduceSub, List.replicate_succ, List.replicate_zero, List.cons_append, List.nil_append, Bool.or_false, Bool.false_and, Bool.and_false, Bool.false_eq_true, if_false, if_true, reduceIte, Bool.not_true, Bool.not_false, ne_eq, not_false_eq_true, and_true, true_and, and_self, Int.reduceEq, Int.reduceNe, not_true_eq_false, Int.reduceToNat, Int.reducePow, Int.reduceMul, Int.reduceAdd, Int.reduceSub, Int.reduceNeg, Nat.reduceLT, okD_int, okD_non, okD_bl, eqD_int, cmp_eqI, cmp_neI, at_0, at_1, at_2, at_3, at_4, cut_1, k_is_is, k_is_nought, k_is_input, k_is_power, k_is_less, k_is_plus, k_is_minus, k_is_times, k_is_over, ki_is, k_nought_is, k_nought_nought, k_nought_input, k_nought_power, k_nought_less, k_nought_plus, k_nought_minus, k_nought_times, k_nought_over, ki_nought, k_input_is, k_input_nought, k_input_input, k_input_power, k_input_less, k_input_plus, k_input_minus, k_input_times, k_input_over, ki_input, k_power_is, k_power_nought, k_power_input, k_power_power, k_power_less, k_power_plus, k_power_minus, k_power_times, k_power_over, ki_power, k_less_is, k_less_nought, k_less_input, k_less_power, k_less_less, k_less_plus, k_less_minus, k_less_times, k_less_over, ki_less, ko_is, ko_nought, ko_input, ko_power, ko_less, ko_plus, ko_minus, ko_times, ko_over, ki_o, ep, Rk.d, Rk.parts, exFor, turnF, e1, e2, n1, n2, et, eo, cu, cv, List.length_map, List.length_append, List.map_append, walkR, reduceCtorEq, grd_pos]
    · cases o <;> simp only [walkR, Rk.size, List.length_append, List.length_cons, List.length_nil] <;> omega
  | .less a b x y, k + 1, G, hG, lG, h, h12, ok, hi, hs => by
    show runD 7 (ir__law_walk (m__law_walk k)) _ = _ ∧ _
    simp only [Rk.ht] at h h12
    simp only [Rk.nn] at hi
    simp only [Rk.size] at hs
    simp only [Rk.Ok] at ok
    have hd : ∀ i, ∀ g ∈ G.drop i, Bm l c g := fun i g hg => hG g (List.mem_of_mem_drop hg)
    have ld : ∀ i, (G.drop i).length = G.length - i := fun i => List.length_drop
    have ep := lparts_eq (.less a b x y)
    simp only [Rk.d, Rk.parts, List.map_cons, List.map_nil] at ep
    obtain ⟨e1, l1⟩ := lwalk_eq hc hl8 hc9 hn hk a k G hG lG (by omega) (by omega) ok.1 (by omega) (by omega)
    obtain ⟨e2, l2⟩ := lwalk_eq hc hl8 hc9 hn hk b k (G.drop a.nn) (hd _) (by rw [ld]; omega) (by omega) (by omega) ok.2.1 (by rw [ld]; omega) (by omega)
    obtain ⟨e3, l3⟩ := lwalk_eq hc hl8 hc9 hn hk x k (G.drop (a.nn + b.nn)) (hd _) (by rw [ld]; omega) (by omega) (by omega) ok.2.2.1 (by rw [ld]; omega) (by omega)
    obtain ⟨e4, l4⟩ := lwalk_eq hc hl8 hc9 hn hk y k (G.drop (a.nn + b.nn + x.nn)) (hd _) (by rw [ld]; omega) (by omega) (by omega) ok.2.2.2 (by rw [ld]; omega) (by omega)
    have b1 := (walk_bm hc hn a G hG ok.1).1.use hl8 hc9 (by omega) hc
    have b2 := (walk_bm hc hn b (G.drop a.nn) (hd _) ok.2.1).1.use hl8 hc9 (by omega) hc
    have b3 := (walk_bm hc hn x (G.drop (a.nn + b.nn)) (hd _) ok.2.2.1).1.use hl8 hc9 (by omega) hc
    have b4 := (walk_bm hc hn y (G.drop (a.nn + b.nn + x.nn)) (hd _) ok.2.2.2).1.use hl8 hc9 (by omega) hc
    have n1 := lnoughts_eq a 20 (by omega)
    have n2 := lnoughts_eq b 20 (by omega)
    have n3 := lnoughts_eq x 20 (by omega)
    have n4 := lnoughts_eq y 20 (by omega)
    have eo := lt_ov (a := (walkR a nm G).1) (b := (walkR b nm (G.drop a.nn)).1) b1.1 b1.2.1 b2.2.1 b2.2.2
    have ew := lt_ov (a := (walkR x nm (G.drop (a.nn + b.nn))).1) (b := (walkR y nm (G.drop (a.nn + b.nn + x.nn))).1) b3.1 b3.2.1 b4.2.1 b4.2.2
    have cu := cut_ms G a.nn (by omega)
    have cv := cut_ms (G.drop a.nn) b.nn (by rw [ld]; omega)
    have d3 : (G.drop a.nn).drop b.nn = G.drop (a.nn + b.nn) := List.drop_drop
    have cw := cut_ms (G.drop (a.nn + b.nn)) x.nn (by rw [ld]; omega)
    have d4 : (G.drop (a.nn + b.nn)).drop x.nn = G.drop (a.nn + b.nn + x.nn) := List.drop_drop
    have cx := cut_ms (G.drop (a.nn + b.nn + x.nn)) y.nn (by rw [ld]; omega)
    rw [d3] at cv
    rw [d4] at cw
    refine ⟨?_, ?_⟩
    · unfold ir__law_walk
      simp (disch := first | omega | (apply cmx <;> omega) | (apply dvok <;> omega) | decide | fail) only [runD, s_cons, s_nil, s_frz, s_fgt, seq_next, seq_ret, seq_err, s_ifs, if_t, if_f, s_fors, s_whl, s_asg, s_nm_fz, s_nm_fr, s_tp, s_ret, s_rse, s_put, s_app, s_ext, s_par, e_and, e_or, and_t, and_f, or_t, or_f, test_bl, e_lc, ev.eq_1, ev.eq_2, ev.eq_3, ev.eq_4, ev.eq_5, ev.eq_6, ev.eq_7, ev.eq_8, ev.eq_9, ev.eq_12, ev.eq_13, ev.eq_14, ev.eq_15, ev.eq_16, ev.eq_17, ev.eq_18, ev.eq_19, ev.eq_20, ev.eq_21, ev.eq_22, ev.eq_23, evs, evo, evIt, MP.R.bind_ok, MP.R.bind_err, notBo_fz, notBo_fr, retK_fz, retK_fr, retK_bo, noErr_ok, binD.eq_1, binD.eq_2, binD.eq_3, binD.eq_4, binD.eq_5, binD.eq_6, binD.eq_7, binD.eq_8, binD.eq_9, binD.eq_10, binD.eq_11, cmpD.eq_3, cmpD.eq_4, cmpD.eq_5, cmpD.eq_6, cmpD.eq_7, cmpD.eq_8, cmpD.eq_9, cmpD.eq_10, cmpD.eq_11, cmpD.eq_12, cmpD.eq_13, ixD.eq_1, ixD.eq_2, ixD.eq_3, ixD.eq_4, ixD.eq_5, biD.eq_1, biD.eq_2, biD.eq_3, biD.eq_4, biD.eq_5, biD.eq_6, biD.eq_7, biD.eq_8, biD.eq_9, biD.eq_10, biD.eq_11, biD.eq_12, biD.eq_13, biD.eq_14, biD.eq_15, biD.eq_16, biD.eq_17, biD.eq_18, biD.eq_19, biD.eq_20, biD.eq_21, biD.eq_22, biD.eq_23, slD.eq_1, slD.eq_2, slD.eq_3, negD.eq_1, isi_int_int, isi_int_bool, isi_str_str, isi_tup_tup, notBos, asInt, asStr, asDic, rOpt, optOk, callD, isBo, bindTg, bindSlots, wipeD, ownL, ownK, ownAt, appD, extD.eq_1, putD.eq_1, putD.eq_2, setOwn, freeze, itemsD.eq_1, itemsD.eq_2, itemsD.eq_3, rng1D.eq_1, rng2D.eq_1, small62, Int.toNat_natCast, turnF, turnL, cast0, cast1, cast2, cast3, cast4, decide_true, decide_false,  freeze, app_len, rep_len,  inD.eq_1, inD.eq_2, inD.eq_3, tyD, MP.isNon, optCons, grd_T, slots_cons, slots_nil, immut, immuts, Option.map_some, Option.map_none, Option.getD_some, Option.getD_none, Option.bind_some, List.getElem?_cons_zero, List.getElem?_cons_succ, List.set_cons_zero, List.set_cons_succ, List.map_cons, List.map_nil, List.any_cons, List.any_nil, List.length_cons, List.length_nil, Nat.reduceAdd, Nat.reduceSub, List.replicate_succ, List.replicate_zero, List.cons_append, List.nil_append, Bool.or_false, Bool.false_and, Bool.and_false, Bool.false_eq_true, if_false, if_true, reduceIte, Bool.not_true, Bool.not_false, ne_eq, not_false_eq_true, and_true, true_and, and_self, Int.reduceEq, Int.reduceNe, not_true_eq_false, Int.reduceToNat, Int.reducePow, Int.reduceMul, Int.reduceAdd, Int.reduceSub, Int.reduceNeg, Nat.reduceLT, okD_int, okD_non, okD_bl, eqD_int, cmp_eqI, cmp_neI, at_0, at_1, at_2, at_3, at_4, cut_1, k_is_is, k_is_nought, k_is_input, k_is_power, k_is_less, k_is_plus, k_is_minus, k_is_times, k_is_over, ki_is, k_nought_is, k_nought_nought, k_nought_input, k_nought_power, k_nought_less, k_nought_plus, k_nought_minus, k_nought_times, k_nought_over, ki_nought, k_input_is, k_input_nought, k_input_input, k_input_power, k_input_less, k_input_plus, k_input_minus, k_input_times, k_input_over, ki_input, k_power_is, k_power_nought, k_power_input, k_power_power, k_power_less, k_power_plus, k_power_minus, k_power_times, k_power_over, ki_power, k_less_is, k_less_nought, k_less_input, k_less_power, k_less_less, k_less_plus, k_less_minus, k_less_times, k_less_over, ki_less, ko_is, ko_nought, ko_input, ko_power, ko_less, ko_plus, ko_minus, ko_times, ko_over, ki_o, ep, Rk.d, Rk.parts, exFor, turnF, e1, e2, e3, e4, n1, n2, n3, n4, eo, ew, cu, cv, cw, cx, List.length_map, List.length_append, List.map_append, walkR, grd_pos]
    · simp only [walkR, Rk.size, List.length_append, List.length_cons, List.length_nil]
      omega
end
end MPk07

namespace MPk07
open PySem PySem.Spec PyProof.Rows L2 MP
theorem lettered_eq {r : Rk} {ws : List Str} (hws : ∀ w ∈ ws, Ltr w) (ok : r.Ok 3 20 (· ∈ ws)) (h : r.ht ≤ 12) (hs : r.size ≤ 4000) (hi : ∀ s ∈ r.ins, s ∈ ws) (hl : ∀ s ∈ ws, s.length ≤ 100) :
    m_lettered [r.d] = .ok (.tup [msD (walkR r eqM (ngL r.nn)).1, .lst ((walkR r eqM (ngL r.nn)).2.map msD)], .fz) := by
  have e1 := inputs_eq r (by omega) hs
  have e2 := noughts_eq r 20 (by omega)
  have l1 := r.ins_size
  have l2 := sinS_len r.ins
  have l3 := r.nn_size
  have nd := sinS_nodup r.ins
  have hin : ∀ s ∈ sinS r.ins, s ∈ ws := fun s hs => hi s (sinS_mem.mp hs)
  have hin2 : ∀ s ∈ r.ins, s ∈ sinS r.ins := fun s hs => sinS_mem.mpr hs
  generalize sinS r.ins = L at *
  unfold m_lettered ir_lettered
  simp (disch := first | omega | (apply cmx <;> omega) | (apply dvok <;> omega) | decide | fail) only [runD, s_cons, s_nil, s_frz, s_fgt, seq_next, seq_ret, seq_err, s_ifs, if_t, if_f, s_fors, s_whl, s_asg, s_nm_fz, s_nm_fr, s_tp, s_ret, s_rse, s_put, s_app, s_ext, s_par, e_and, e_or, and_t, and_f, or_t, or_f, test_bl, e_lc, ev.eq_1, ev.eq_2, ev.eq_3, ev.eq_4, ev.eq_5, ev.eq_6, ev.eq_7, ev.eq_8, ev.eq_9, ev.eq_12, ev.eq_13, ev.eq_14, ev.eq_15, ev.eq_16, ev.eq_17, ev.eq_18, ev.eq_19, ev.eq_20, ev.eq_21, ev.eq_22, ev.eq_23, evs, evo, evIt, MP.R.bind_ok, MP.R.bind_err, notBo_fz, notBo_fr, retK_fz, retK_fr, retK_bo, noErr_ok, binD.eq_1, binD.eq_2, binD.eq_3, binD.eq_4, binD.eq_5, binD.eq_6, binD.eq_7, binD.eq_8, binD.eq_9, binD.eq_10, binD.eq_11, cmpD.eq_3, cmpD.eq_4, cmpD.eq_5, cmpD.eq_6, cmpD.eq_7, cmpD.eq_8, cmpD.eq_9, cmpD.eq_10, cmpD.eq_11, cmpD.eq_12, cmpD.eq_13, ixD.eq_1, ixD.eq_2, ixD.eq_3, ixD.eq_4, ixD.eq_5, biD.eq_1, biD.eq_2, biD.eq_3, biD.eq_4, biD.eq_5, biD.eq_6, biD.eq_7, biD.eq_8, biD.eq_9, biD.eq_10, biD.eq_11, biD.eq_12, biD.eq_13, biD.eq_14, biD.eq_15, biD.eq_16, biD.eq_17, biD.eq_18, biD.eq_19, biD.eq_20, biD.eq_21, biD.eq_22, biD.eq_23, slD.eq_1, slD.eq_2, slD.eq_3, negD.eq_1, isi_int_int, isi_int_bool, isi_str_str, isi_tup_tup, notBos, asInt, asStr, asDic, rOpt, optOk, callD, isBo, bindTg, bindSlots, wipeD, ownL, ownK, ownAt, appD, extD.eq_1, putD.eq_1, putD.eq_2, setOwn, freeze, itemsD.eq_1, itemsD.eq_2, itemsD.eq_3, rng1D.eq_1, rng2D.eq_1, small62, Int.toNat_natCast, turnF, turnL, cast0, cast1, cast2, cast3, cast4, decide_true, decide_false,  freeze, app_len, rep_len,  inD.eq_1, inD.eq_2, inD.eq_3, tyD, MP.isNon, optCons, grd_T, slots_cons, slots_nil, immut, immuts, Option.map_some, Option.map_none, Option.getD_some, Option.getD_none, Option.bind_some, List.getElem?_cons_zero, List.getElem?_cons_succ, List.set_cons_zero, List.set_cons_succ, List.map_cons, List.map_nil, List.any_cons, List.any_nil, List.length_cons, List.length_nil, Nat.reduceAdd, Nat.reduceSub, List.replicate_succ, List.replicate_zero, List.cons_append, List.nil_append, Bool.or_false, Bool.false_and, Bool.and_false, Bool.false_eq_true, if_false, if_true, reduceIte, Bool.not_true, Bool.not_false, ne_eq, not_false_eq_true, and_true, true_and, and_self, Int.reduceEq, Int.reduceNe, not_true_eq_false, Int.reduceToNat, Int.reducePow, Int.reduceMul, Int.reduceAdd, Int.reduceSub, Int.reduceNeg, Nat.reduceLT, okD_int, okD_non, okD_bl, eqD_int, cmp_eqI, cmp_neI, at_0, at_1, at_2, at_3, at_4, cut_1, k_is_is, k_is_nought, k_is_input, k_is_power, k_is_less, k_is_plus, k_is_minus, k_is_times, k_is_over, ki_is, k_nought_is, k_nought_nought, k_nought_input, k_nought_power, k_nought_less, k_nought_plus, k_nought_minus, k_nought_times, k_nought_over, ki_nought, k_input_is, k_input_nought, k_input_input, k_input_power, k_input_less, k_input_plus, k_input_minus, k_input_times, k_input_over, ki_input, k_power_is, k_power_nought, k_power_input, k_power_power, k_power_less, k_power_plus, k_power_minus, k_power_times, k_power_over, ki_power, k_less_is, k_less_nought, k_less_input, k_less_power, k_less_less, k_less_plus, k_less_minus, k_less_times, k_less_over, ki_less, ko_is, ko_nought, ko_input, ko_power, ko_less, ko_plus, ko_minus, ko_times, ko_over, ki_o, e1, e2, grd_pos]
  generalize hX : exFor _ _ _ _ = X
  refine for_invG hX (fun xs σ => ∃ dn : List Str, dn ++ xs = L ∧ σ = [some (r.d, false), some (.dic (nmD dn), true), none, none, none]) ⟨[], rfl, rfl⟩ ?step ?rest
  case step =>
    clear hX
    rintro x xs σ ⟨dn, rfl, rfl⟩
    have hx := hl x (hin x (by simp))
    have le : Str.length ("=" : Str) = 1 := rfl
    have fr : x ∉ (nmD dn).map (·.1) := by
      unfold nmD
      rw [List.map_map]
      intro z
      rw [List.nodup_append] at nd
      obtain ⟨y, hy, q⟩ := List.mem_map.mp z
      exact nd.2.2 y hy x List.mem_cons_self q
    have ed := fun d => dput_new (d := d) fr
    have ln : (nmD dn).length ≤ 4000 := by unfold nmD; rw [List.length_map]; rw [List.length_append] at l2; omega
    simp (disch := first | omega | (apply cmx <;> omega) | (apply dvok <;> omega) | decide | fail) only [runD, s_cons, s_nil, s_frz, s_fgt, seq_next, seq_ret, seq_err, s_ifs, if_t, if_f, s_fors, s_whl, s_asg, s_nm_fz, s_nm_fr, s_tp, s_ret, s_rse, s_put, s_app, s_ext, s_par, e_and, e_or, and_t, and_f, or_t, or_f, test_bl, e_lc, ev.eq_1, ev.eq_2, ev.eq_3, ev.eq_4, ev.eq_5, ev.eq_6, ev.eq_7, ev.eq_8, ev.eq_9, ev.eq_12, ev.eq_13, ev.eq_14, ev.eq_15, ev.eq_16, ev.eq_17, ev.eq_18, ev.eq_19, ev.eq_20, ev.eq_21, ev.eq_22, ev.eq_23, evs, evo, evIt, MP.R.bind_ok, MP.R.bind_err, notBo_fz, notBo_fr, retK_fz, retK_fr, retK_bo, noErr_ok, binD.eq_1, binD.eq_2, binD.eq_3, binD.eq_4, binD.eq_5, binD.eq_6, binD.eq_7, binD.eq_8, binD.eq_9, binD.eq_10, binD.eq_11, cmpD.eq_3, cmpD.eq_4, cmpD.eq_5, cmpD.eq_6, cmpD.eq_7, cmpD.eq_8, cmpD.eq_9, cmpD.eq_10, cmpD.eq_11, cmpD.eq_12, cmpD.eq_13, ixD.eq_1, ixD.eq_2, ixD.eq_3, ixD.eq_4, ixD.eq_5, biD.eq_1, biD.eq_2, biD.eq_3, biD.eq_4, biD.eq_5, biD.eq_6, biD.eq_7, biD.eq_8, biD.eq_9, biD.eq_10, biD.eq_11, biD.eq_12, biD.eq_13, biD.eq_14, biD.eq_15, biD.eq_16, biD.eq_17, biD.eq_18, biD.eq_19, biD.eq_20, biD.eq_21, biD.eq_22, biD.eq_23, slD.eq_1, slD.eq_2, slD.eq_3, negD.eq_1, isi_int_int, isi_int_bool, isi_str_str, isi_tup_tup, notBos, asInt, asStr, asDic, rOpt, optOk, callD, isBo, bindTg, bindSlots, wipeD, ownL, ownK, ownAt, appD, extD.eq_1, putD.eq_1, putD.eq_2, setOwn, freeze, itemsD.eq_1, itemsD.eq_2, itemsD.eq_3, rng1D.eq_1, rng2D.eq_1, small62, Int.toNat_natCast, turnF, turnL, cast0, cast1, cast2, cast3, cast4, decide_true, decide_false,  freeze, app_len, rep_len,  inD.eq_1, inD.eq_2, inD.eq_3, tyD, MP.isNon, optCons, grd_T, slots_cons, slots_nil, immut, immuts, Option.map_some, Option.map_none, Option.getD_some, Option.getD_none, Option.bind_some, List.getElem?_cons_zero, List.getElem?_cons_succ, List.set_cons_zero, List.set_cons_succ, List.map_cons, List.map_nil, List.any_cons, List.any_nil, List.length_cons, List.length_nil, Nat.reduceAdd, Nat.reduceSub, List.replicate_succ, List.replicate_zero, List.cons_append, List.nil_append, Bool.or_false, Bool.false_and, Bool.and_false, Bool.false_eq_true, if_false, if_true, reduceIte, Bool.not_true, Bool.not_false, ne_eq, not_false_eq_true, and_true, true_and, and_self, Int.reduceEq, Int.reduceNe, not_true_eq_false, Int.reduceToNat, Int.reducePow, Int.reduceMul, Int.reduceAdd, Int.reduceSub, Int.reduceNeg, Nat.reduceLT, okD_int, okD_non, okD_bl, eqD_int, cmp_eqI, cmp_neI, at_0, at_1, at_2, at_3, at_4, cut_1, k_is_is, k_is_nought, k_is_input, k_is_power, k_is_less, k_is_plus, k_is_minus, k_is_times, k_is_over, ki_is, k_nought_is, k_nought_nought, k_nought_input, k_nought_power, k_nought_less, k_nought_plus, k_nought_minus, k_nought_times, k_nought_over, ki_nought, k_input_is, k_input_nought, k_input_input, k_input_power, k_input_less, k_input_plus, k_input_minus, k_input_times, k_input_over, ki_input, k_power_is, k_power_nought, k_power_input, k_power_power, k_power_less, k_power_plus, k_power_minus, k_power_times, k_power_over, ki_power, k_less_is, k_less_nought, k_less_input, k_less_power, k_less_less, k_less_plus, k_less_minus, k_less_times, k_less_over, ki_less, ko_is, ko_nought, ko_input, ko_power, ko_less, ko_plus, ko_minus, ko_times, ko_over, ki_o, le, ed, grd_pos]
    refine ⟨_, rfl, dn ++ [x], by simp, ?_⟩
    unfold nmD
    rw [List.map_append]
    rfl
  case rest =>
    rintro σ' ⟨dn, e, rfl⟩ rfl
    rw [List.append_nil] at e
    subst e
    clear hX
    simp (disch := first | omega | (apply cmx <;> omega) | (apply dvok <;> omega) | decide | fail) only [runD, s_cons, s_nil, s_frz, s_fgt, seq_next, seq_ret, seq_err, s_ifs, if_t, if_f, s_fors, s_whl, s_asg, s_nm_fz, s_nm_fr, s_tp, s_ret, s_rse, s_put, s_app, s_ext, s_par, e_and, e_or, and_t, and_f, or_t, or_f, test_bl, e_lc, ev.eq_1, ev.eq_2, ev.eq_3, ev.eq_4, ev.eq_5, ev.eq_6, ev.eq_7, ev.eq_8, ev.eq_9, ev.eq_12, ev.eq_13, ev.eq_14, ev.eq_15, ev.eq_16, ev.eq_17, ev.eq_18, ev.eq_19, ev.eq_20, ev.eq_21, ev.eq_22, ev.eq_23, evs, evo, evIt, MP.R.bind_ok, MP.R.bind_err, notBo_fz, notBo_fr, retK_fz, retK_fr, retK_bo, noErr_ok, binD.eq_1, binD.eq_2, binD.eq_3, binD.eq_4, binD.eq_5, binD.eq_6, binD.eq_7, binD.eq_8, binD.eq_9, binD.eq_10, binD.eq_11, cmpD.eq_3, cmpD.eq_4, cmpD.eq_5, cmpD.eq_6, cmpD.eq_7, cmpD.eq_8, cmpD.eq_9, cmpD.eq_10, cmpD.eq_11, cmpD.eq_12, cmpD.eq_13, ixD.eq_1, ixD.eq_2, ixD.eq_3, ixD.eq_4, ixD.eq_5, biD.eq_1, biD.eq_2, biD.eq_3, biD.eq_4, biD.eq_5, biD.eq_6, biD.eq_7, biD.eq_8, biD.eq_9, biD.eq_10, biD.eq_11, biD.eq_12, biD.eq_13, biD.eq_14, biD.eq_15, biD.eq_16, biD.eq_17, biD.eq_18, biD.eq_19, biD.eq_20, biD.eq_21, biD.eq_22, biD.eq_23, slD.eq_1, slD.eq_2, slD.eq_3, negD.eq_1, isi_int_int, isi_int_bool, isi_str_str, isi_tup_tup, notBos, asInt, asStr, asDic, rOpt, optOk, callD, isBo, bindTg, bindSlots, wipeD, ownL, ownK, ownAt, appD, extD.eq_1, putD.eq_1, putD.eq_2, setOwn, freeze, itemsD.eq_1, itemsD.eq_2, itemsD.eq_3, rng1D.eq_1, rng2D.eq_1, small62, Int.toNat_natCast, turnF, turnL, cast0, cast1, cast2, cast3, cast4, decide_true, decide_false,  freeze, app_len, rep_len,  inD.eq_1, inD.eq_2, inD.eq_3, tyD, MP.isNon, optCons, grd_T, slots_cons, slots_nil, immut, immuts, Option.map_some, Option.map_none, Option.getD_some, Option.getD_none, Option.bind_some, List.getElem?_cons_zero, List.getElem?_cons_succ, List.set_cons_zero, List.set_cons_succ, List.map_cons, List.map_nil, List.any_cons, List.any_nil, List.length_cons, List.length_nil, Nat.reduceAdd, Nat.reduceSub, List.replicate_succ, List.replicate_zero, List.cons_append, List.nil_append, Bool.or_false, Bool.false_and, Bool.and_false, Bool.false_eq_true, if_false, if_true, reduceIte, Bool.not_true, Bool.not_false, ne_eq, not_false_eq_true, and_true, true_and, and_self, Int.reduceEq, Int.reduceNe, not_true_eq_false, Int.reduceToNat, Int.reducePow, Int.reduceMul, Int.reduceAdd, Int.reduceSub, Int.reduceNeg, Nat.reduceLT, okD_int, okD_non, okD_bl, eqD_int, cmp_eqI, cmp_neI, at_0, at_1, at_2, at_3, at_4, cut_1, k_is_is, k_is_nought, k_is_input, k_is_power, k_is_less, k_is_plus, k_is_minus, k_is_times, k_is_over, ki_is, k_nought_is, k_nought_nought, k_nought_input, k_nought_power, k_nought_less, k_nought_plus, k_nought_minus, k_nought_times, k_nought_over, ki_nought, k_input_is, k_input_nought, k_input_input, k_input_power, k_input_less, k_input_plus, k_input_minus, k_input_times, k_input_over, ki_input, k_power_is, k_power_nought, k_power_input, k_power_power, k_power_less, k_power_plus, k_power_minus, k_power_times, k_power_over, ki_power, k_less_is, k_less_nought, k_less_input, k_less_power, k_less_less, k_less_plus, k_less_minus, k_less_times, k_less_over, ki_less, ko_is, ko_nought, ko_input, ko_power, ko_less, ko_plus, ko_minus, ko_times, ko_over, ki_o, e2, range0, List.length_map, List.length_range, grd_pos]
    generalize hX : evItems _ _ = X
    have eX := items_mapG hX (fun k : Nat => msD (ngM k)) ?_
    · subst eX
      have ew := (walked_eq (l := 3) (c := 20) (N := (· ∈ r.ins)) (nm := eqM) (ks := nmD dn) (by decide) (by decide) (by decide) (fun s hs => (eqM_bm (hws s (hi s hs))).mono (by decide) (by decide)) (fun s hs => dget_map (hin2 s hs)) (ngL r.nn) (fun g hg => (ngL_bm (by omega) g hg).mono (by decide) (by decide)) (by rw [ngL_len]; omega) r 20 0 (by omega) h ?_ (by rw [ngL_len]; omega) hs).1
      · have eG : List.map (fun k => msD (ngM k)) (List.range r.nn) = (ngL r.nn).map msD := by unfold ngL; rw [List.map_map]; rfl
        rw [List.drop_zero, cast0] at ew
        simp (disch := first | omega | (apply cmx <;> omega) | (apply dvok <;> omega) | decide | fail) only [runD, s_cons, s_nil, s_frz, s_fgt, seq_next, seq_ret, seq_err, s_ifs, if_t, if_f, s_fors, s_whl, s_asg, s_nm_fz, s_nm_fr, s_tp, s_ret, s_rse, s_put, s_app, s_ext, s_par, e_and, e_or, and_t, and_f, or_t, or_f, test_bl, e_lc, ev.eq_1, ev.eq_2, ev.eq_3, ev.eq_4, ev.eq_5, ev.eq_6, ev.eq_7, ev.eq_8, ev.eq_9, ev.eq_12, ev.eq_13, ev.eq_14, ev.eq_15, ev.eq_16, ev.eq_17, ev.eq_18, ev.eq_19, ev.eq_20, ev.eq_21, ev.eq_22, ev.eq_23, evs, evo, evIt, MP.R.bind_ok, MP.R.bind_err, notBo_fz, notBo_fr, retK_fz, retK_fr, retK_bo, noErr_ok, binD.eq_1, binD.eq_2, binD.eq_3, binD.eq_4, binD.eq_5, binD.eq_6, binD.eq_7, binD.eq_8, binD.eq_9, binD.eq_10, binD.eq_11, cmpD.eq_3, cmpD.eq_4, cmpD.eq_5, cmpD.eq_6, cmpD.eq_7, cmpD.eq_8, cmpD.eq_9, cmpD.eq_10, cmpD.eq_11, cmpD.eq_12, cmpD.eq_13, ixD.eq_1, ixD.eq_2, ixD.eq_3, ixD.eq_4, ixD.eq_5, biD.eq_1, biD.eq_2, biD.eq_3, biD.eq_4, biD.eq_5, biD.eq_6, biD.eq_7, biD.eq_8, biD.eq_9, biD.eq_10, biD.eq_11, biD.eq_12, biD.eq_13, biD.eq_14, biD.eq_15, biD.eq_16, biD.eq_17, biD.eq_18, biD.eq_19, biD.eq_20, biD.eq_21, biD.eq_22, biD.eq_23, slD.eq_1, slD.eq_2, slD.eq_3, negD.eq_1, isi_int_int, isi_int_bool, isi_str_str, isi_tup_tup, notBos, asInt, asStr, asDic, rOpt, optOk, callD, isBo, bindTg, bindSlots, wipeD, ownL, ownK, ownAt, appD, extD.eq_1, putD.eq_1, putD.eq_2, setOwn, freeze, itemsD.eq_1, itemsD.eq_2, itemsD.eq_3, rng1D.eq_1, rng2D.eq_1, small62, Int.toNat_natCast, turnF, turnL, cast0, cast1, cast2, cast3, cast4, decide_true, decide_false,  freeze, app_len, rep_len,  inD.eq_1, inD.eq_2, inD.eq_3, tyD, MP.isNon, optCons, grd_T, slots_cons, slots_nil, immut, immuts, Option.map_some, Option.map_none, Option.getD_some, Option.getD_none, Option.bind_some, List.getElem?_cons_zero, List.getElem?_cons_succ, List.set_cons_zero, List.set_cons_succ, List.map_cons, List.map_nil, List.any_cons, List.any_nil, List.length_cons, List.length_nil, Nat.reduceAdd, Nat.reduceSub, List.replicate_succ, List.replicate_zero, List.cons_append, List.nil_append, Bool.or_false, Bool.false_and, Bool.and_false, Bool.false_eq_true, if_false, if_true, reduceIte, Bool.not_true, Bool.not_false, ne_eq, not_false_eq_true, and_true, true_and, and_self, Int.reduceEq, Int.reduceNe, not_true_eq_false, Int.reduceToNat, Int.reducePow, Int.reduceMul, Int.reduceAdd, Int.reduceSub, Int.reduceNeg, Nat.reduceLT, okD_int, okD_non, okD_bl, eqD_int, cmp_eqI, cmp_neI, at_0, at_1, at_2, at_3, at_4, cut_1, k_is_is, k_is_nought, k_is_input, k_is_power, k_is_less, k_is_plus, k_is_minus, k_is_times, k_is_over, ki_is, k_nought_is, k_nought_nought, k_nought_input, k_nought_power, k_nought_less, k_nought_plus, k_nought_minus, k_nought_times, k_nought_over, ki_nought, k_input_is, k_input_nought, k_input_input, k_input_power, k_input_less, k_input_plus, k_input_minus, k_input_times, k_input_over, ki_input, k_power_is, k_power_nought, k_power_input, k_power_power, k_power_less, k_power_plus, k_power_minus, k_power_times, k_power_over, ki_power, k_less_is, k_less_nought, k_less_input, k_less_power, k_less_less, k_less_plus, k_less_minus, k_less_times, k_less_over, ki_less, ko_is, ko_nought, ko_input, ko_power, ko_less, ko_plus, ko_minus, ko_times, ko_over, ki_o, eG, ew, grd_pos]
      · exact Rk.Ok_ins ok
    · clear hX
      intro k hk
      have hk := List.mem_range.mp hk
      have lg : (k : Int).natAbs.log2 < 1920 := by
        by_cases z : (k : Int).natAbs = 0
        · rw [z]; decide
        · have h : (k : Int).natAbs < 2 ^ 100 := by omega
          have := (Nat.log2_lt z).mpr h
          omega
      obtain ⟨t, p⟩ := num_tx (i := k) (by omega) (by omega)
      have t1 := t.1
      have le : Str.length ("0" : Str) = 1 := rfl
      simp (disch := first | omega | (apply cmx <;> omega) | (apply dvok <;> omega) | decide | fail) only [runD, s_cons, s_nil, s_frz, s_fgt, seq_next, seq_ret, seq_err, s_ifs, if_t, if_f, s_fors, s_whl, s_asg, s_nm_fz, s_nm_fr, s_tp, s_ret, s_rse, s_put, s_app, s_ext, s_par, e_and, e_or, and_t, and_f, or_t, or_f, test_bl, e_lc, ev.eq_1, ev.eq_2, ev.eq_3, ev.eq_4, ev.eq_5, ev.eq_6, ev.eq_7, ev.eq_8, ev.eq_9, ev.eq_12, ev.eq_13, ev.eq_14, ev.eq_15, ev.eq_16, ev.eq_17, ev.eq_18, ev.eq_19, ev.eq_20, ev.eq_21, ev.eq_22, ev.eq_23, evs, evo, evIt, MP.R.bind_ok, MP.R.bind_err, notBo_fz, notBo_fr, retK_fz, retK_fr, retK_bo, noErr_ok, binD.eq_1, binD.eq_2, binD.eq_3, binD.eq_4, binD.eq_5, binD.eq_6, binD.eq_7, binD.eq_8, binD.eq_9, binD.eq_10, binD.eq_11, cmpD.eq_3, cmpD.eq_4, cmpD.eq_5, cmpD.eq_6, cmpD.eq_7, cmpD.eq_8, cmpD.eq_9, cmpD.eq_10, cmpD.eq_11, cmpD.eq_12, cmpD.eq_13, ixD.eq_1, ixD.eq_2, ixD.eq_3, ixD.eq_4, ixD.eq_5, biD.eq_1, biD.eq_2, biD.eq_3, biD.eq_4, biD.eq_5, biD.eq_6, biD.eq_7, biD.eq_8, biD.eq_9, biD.eq_10, biD.eq_11, biD.eq_12, biD.eq_13, biD.eq_14, biD.eq_15, biD.eq_16, biD.eq_17, biD.eq_18, biD.eq_19, biD.eq_20, biD.eq_21, biD.eq_22, biD.eq_23, slD.eq_1, slD.eq_2, slD.eq_3, negD.eq_1, isi_int_int, isi_int_bool, isi_str_str, isi_tup_tup, notBos, asInt, asStr, asDic, rOpt, optOk, callD, isBo, bindTg, bindSlots, wipeD, ownL, ownK, ownAt, appD, extD.eq_1, putD.eq_1, putD.eq_2, setOwn, freeze, itemsD.eq_1, itemsD.eq_2, itemsD.eq_3, rng1D.eq_1, rng2D.eq_1, small62, Int.toNat_natCast, turnF, turnL, cast0, cast1, cast2, cast3, cast4, decide_true, decide_false,  freeze, app_len, rep_len,  inD.eq_1, inD.eq_2, inD.eq_3, tyD, MP.isNon, optCons, grd_T, slots_cons, slots_nil, immut, immuts, Option.map_some, Option.map_none, Option.getD_some, Option.getD_none, Option.bind_some, List.getElem?_cons_zero, List.getElem?_cons_succ, List.set_cons_zero, List.set_cons_succ, List.map_cons, List.map_nil, List.any_cons, List.any_nil, List.length_cons, List.length_nil, Nat.reduceAdd, Nat.reduceSub, List.replicate_succ, List.replicate_zero, List.cons_append, List.nil_append, Bool.or_false, Bool.false_and, Bool.and_false, Bool.false_eq_true, if_false, if_true, reduceIte, Bool.not_true, Bool.not_false, ne_eq, not_false_eq_true, and_true, true_and, and_self, Int.reduceEq, Int.reduceNe, not_true_eq_false, Int.reduceToNat, Int.reducePow, Int.reduceMul, Int.reduceAdd, Int.reduceSub, Int.reduceNeg, Nat.reduceLT, okD_int, okD_non, okD_bl, eqD_int, cmp_eqI, cmp_neI, at_0, at_1, at_2, at_3, at_4, cut_1, k_is_is, k_is_nought, k_is_input, k_is_power, k_is_less, k_is_plus, k_is_minus, k_is_times, k_is_over, ki_is, k_nought_is, k_nought_nought, k_nought_input, k_nought_power, k_nought_less, k_nought_plus, k_nought_minus, k_nought_times, k_nought_over, ki_nought, k_input_is, k_input_nought, k_input_input, k_input_power, k_input_less, k_input_plus, k_input_minus, k_input_times, k_input_over, ki_input, k_power_is, k_power_nought, k_power_input, k_power_power, k_power_less, k_power_plus, k_power_minus, k_power_times, k_power_over, ki_power, k_less_is, k_less_nought, k_less_input, k_less_power, k_less_less, k_less_plus, k_less_minus, k_less_times, k_less_over, ki_less, ko_is, ko_nought, ko_input, ko_power, ko_less, ko_plus, ko_minus, ko_times, ko_over, ki_o, turnL, lg, le, grd_pos]
      rfl
theorem alike_eq {r : Rk} {x : D} {y : D} (h : m_lettered [r.d] = .ok (.tup [x, y], .fz)) : m_alike [r.d] = .ok (y, .fz) ∧ m_measure_of [r.d] = .ok (x, .fz) := by
  unfold m_alike ir_alike m_measure_of ir_measure_of
  constructor <;> simp (disch := first | omega | (apply cmx <;> omega) | (apply dvok <;> omega) | decide | fail) only [runD, s_cons, s_nil, s_frz, s_fgt, seq_next, seq_ret, seq_err, s_ifs, if_t, if_f, s_fors, s_whl, s_asg, s_nm_fz, s_nm_fr, s_tp, s_ret, s_rse, s_put, s_app, s_ext, s_par, e_and, e_or, and_t, and_f, or_t, or_f, test_bl, e_lc, ev.eq_1, ev.eq_2, ev.eq_3, ev.eq_4, ev.eq_5, ev.eq_6, ev.eq_7, ev.eq_8, ev.eq_9, ev.eq_12, ev.eq_13, ev.eq_14, ev.eq_15, ev.eq_16, ev.eq_17, ev.eq_18, ev.eq_19, ev.eq_20, ev.eq_21, ev.eq_22, ev.eq_23, evs, evo, evIt, MP.R.bind_ok, MP.R.bind_err, notBo_fz, notBo_fr, retK_fz, retK_fr, retK_bo, noErr_ok, binD.eq_1, binD.eq_2, binD.eq_3, binD.eq_4, binD.eq_5, binD.eq_6, binD.eq_7, binD.eq_8, binD.eq_9, binD.eq_10, binD.eq_11, cmpD.eq_3, cmpD.eq_4, cmpD.eq_5, cmpD.eq_6, cmpD.eq_7, cmpD.eq_8, cmpD.eq_9, cmpD.eq_10, cmpD.eq_11, cmpD.eq_12, cmpD.eq_13, ixD.eq_1, ixD.eq_2, ixD.eq_3, ixD.eq_4, ixD.eq_5, biD.eq_1, biD.eq_2, biD.eq_3, biD.eq_4, biD.eq_5, biD.eq_6, biD.eq_7, biD.eq_8, biD.eq_9, biD.eq_10, biD.eq_11, biD.eq_12, biD.eq_13, biD.eq_14, biD.eq_15, biD.eq_16, biD.eq_17, biD.eq_18, biD.eq_19, biD.eq_20, biD.eq_21, biD.eq_22, biD.eq_23, slD.eq_1, slD.eq_2, slD.eq_3, negD.eq_1, isi_int_int, isi_int_bool, isi_str_str, isi_tup_tup, notBos, asInt, asStr, asDic, rOpt, optOk, callD, isBo, bindTg, bindSlots, wipeD, ownL, ownK, ownAt, appD, extD.eq_1, putD.eq_1, putD.eq_2, setOwn, freeze, itemsD.eq_1, itemsD.eq_2, itemsD.eq_3, rng1D.eq_1, rng2D.eq_1, small62, Int.toNat_natCast, turnF, turnL, cast0, cast1, cast2, cast3, cast4, decide_true, decide_false,  freeze, app_len, rep_len,  inD.eq_1, inD.eq_2, inD.eq_3, tyD, MP.isNon, optCons, grd_T, slots_cons, slots_nil, immut, immuts, Option.map_some, Option.map_none, Option.getD_some, Option.getD_none, Option.bind_some, List.getElem?_cons_zero, List.getElem?_cons_succ, List.set_cons_zero, List.set_cons_succ, List.map_cons, List.map_nil, List.any_cons, List.any_nil, List.length_cons, List.length_nil, Nat.reduceAdd, Nat.reduceSub, List.replicate_succ, List.replicate_zero, List.cons_append, List.nil_append, Bool.or_false, Bool.false_and, Bool.and_false, Bool.false_eq_true, if_false, if_true, reduceIte, Bool.not_true, Bool.not_false, ne_eq, not_false_eq_true, and_true, true_and, and_self, Int.reduceEq, Int.reduceNe, not_true_eq_false, Int.reduceToNat, Int.reducePow, Int.reduceMul, Int.reduceAdd, Int.reduceSub, Int.reduceNeg, Nat.reduceLT, okD_int, okD_non, okD_bl, eqD_int, cmp_eqI, cmp_neI, at_0, at_1, at_2, at_3, at_4, cut_1, k_is_is, k_is_nought, k_is_input, k_is_power, k_is_less, k_is_plus, k_is_minus, k_is_times, k_is_over, ki_is, k_nought_is, k_nought_nought, k_nought_input, k_nought_power, k_nought_less, k_nought_plus, k_nought_minus, k_nought_times, k_nought_over, ki_nought, k_input_is, k_input_nought, k_input_input, k_input_power, k_input_less, k_input_plus, k_input_minus, k_input_times, k_input_over, ki_input, k_power_is, k_power_nought, k_power_input, k_power_power, k_power_less, k_power_plus, k_power_minus, k_power_times, k_power_over, ki_power, k_less_is, k_less_nought, k_less_input, k_less_power, k_less_less, k_less_plus, k_less_minus, k_less_times, k_less_over, ki_less, ko_is, ko_nought, ko_input, ko_power, ko_less, ko_plus, ko_minus, ko_times, ko_over, ki_o, h, grd_pos]
theorem at_d4 {i : Int} (h1 : 0 ≤ i) (h2 : i < 4) : ∃ d : Int, atI [D.int 1, D.int 2, D.int 3, D.int 3] i = some (.int d) ∧ 1 ≤ d ∧ d ≤ 3 := by
  obtain ⟨x, e, q⟩ := at4 (a := D.int 1) (b := D.int 2) (c := D.int 3) (d := D.int 3) h1 h2
  rcases q with rfl | rfl | rfl | rfl
  · exact ⟨1, e, by decide, by decide⟩
  · exact ⟨2, e, by decide, by decide⟩
  · exact ⟨3, e, by decide, by decide⟩
  · exact ⟨3, e, by decide, by decide⟩
theorem at_ops3 {i : Int} (h1 : 0 ≤ i) (h2 : i < 3) : ∃ o : Bk, atI [D.str "plus", D.str "minus", D.str "times"] i = some (.str o.s) := by
  obtain ⟨x, e, q⟩ := at3 (a := D.str "plus") (b := D.str "minus") (c := D.str "times") h1 h2
  rcases q with rfl | rfl | rfl
  · exact ⟨.plus, e⟩
  · exact ⟨.minus, e⟩
  · exact ⟨.times, e⟩
theorem law_eq (ns : List Int) : m_law [.scr ns] = .ok (.bl true, .fz) := by
  have c0 : m__law_cell_at [.scr ns, .int 0] = .ok (.int (cell ns 0), .fz) := cell_at_eq ns 0
  have c1 : m__law_cell_at [.scr ns, .int 1] = .ok (.int (cell ns 1), .fz) := cell_at_eq ns 1
  have c2 : m__law_cell_at [.scr ns, .int 2] = .ok (.int (cell ns 2), .fz) := cell_at_eq ns 2
  have c3 : m__law_cell_at [.scr ns, .int 3] = .ok (.int (cell ns 3), .fz) := cell_at_eq ns 3
  obtain ⟨a0, b0⟩ := cell_ge ns 0
  obtain ⟨a1, b1⟩ := cell_ge ns 1
  obtain ⟨a2, b2⟩ := cell_ge ns 2
  obtain ⟨a3, b3⟩ := cell_ge ns 3
  obtain ⟨b, cb, hb0, hb1⟩ : ∃ b : Int, m__law_cell_at [.scr ns, .int (if 0 < cell ns 1 % 3 then 1 else 0)] = .ok (.int b, .fz) ∧ 0 ≤ b ∧ b < 2 ^ 64 := by
    split
    · exact ⟨_, c1, a1, by omega⟩
    · exact ⟨_, c0, a0, by omega⟩
  obtain ⟨ws, ew, wl, hw⟩ := words_eq (c := cell ns 0) (n := 4) a0 (by omega) (by decide)
  obtain ⟨bs, eb, bl, hb⟩ := words_eq (c := b) (n := 3) hb0 hb1 (by decide)
  have ew : m__law_words [.int (cell ns 0), .int 4] = _ := ew
  have eb : m__law_words [.int b, .int 3] = _ := eb
  have Wws : Wds ws := ⟨by omega, by omega, fun w q => ltr_of (hw w q).1 (hw w q).2⟩
  have Wbs : Wds bs := ⟨by omega, by omega, fun w q => ltr_of (hb w q).1 (hb w q).2⟩
  obtain ⟨d, ed, d1, d2⟩ := at_d4 (i := cell ns 3 % 4) (by omega) (by omega)
  obtain ⟨r0, er, ok0, rh0, rp0, rs0⟩ := ltree_eq Wws Wbs 19 (cell ns 2) d 2 (by omega) (by omega) a2 (by omega)
  obtain ⟨x, ex, ox⟩ := at2 (a := D.int 4) (b := D.int 10) (i := cell ns 3 / 4 % 2) (by omega) (by omega)
  obtain ⟨u, eu, u1, u2⟩ : ∃ u : Int, x = .int u ∧ 4 ≤ u ∧ u ≤ 10 := ox.elim (fun e => ⟨_, e, by omega, by omega⟩) fun e => ⟨_, e, by omega, by omega⟩
  subst eu
  obtain ⟨t, ht, t2⟩ : ∃ t : Int, (if u < (ns.length : Int) then u else (ns.length : Int)) = t ∧ 0 ≤ t ∧ t ≤ 10 := ⟨_, rfl, by split <;> omega, by split <;> omega⟩
  obtain ⟨n, hn, n6⟩ : ∃ n : Nat, (t - 4).toNat = n ∧ n ≤ 6 := ⟨_, rfl, by omega⟩
  have hsz : r0.size ≤ 125 := by
    refine Nat.le_trans rs0 ?_
    have : 5 ^ d.toNat ≤ 5 ^ 3 := Nat.pow_le_pow_right (by decide) (by omega)
    omega
  have er : m__law_tree 20 [.int (cell ns 2), .int d, .tup [.lst (ws.map .str), .lst (bs.map .str)], .int 2] = .ok (r0.d, .fz) := er
  unfold m_law ir_law
  simp (disch := first | omega | (apply cmx <;> omega) | (apply dvok <;> omega) | decide | fail) only [decide_eq_true_eq, runD, s_cons, s_nil, s_frz, s_fgt, seq_next, seq_ret, seq_err, s_ifs, if_t, if_f, s_fors, s_whl, s_asg, s_nm_fz, s_nm_fr, s_tp, s_ret, s_rse, s_put, s_app, s_ext, s_par, e_and, e_or, and_t, and_f, or_t, or_f, test_bl, e_lc, ev.eq_1, ev.eq_2, ev.eq_3, ev.eq_4, ev.eq_5, ev.eq_6, ev.eq_7, ev.eq_8, ev.eq_9, ev.eq_12, ev.eq_13, ev.eq_14, ev.eq_15, ev.eq_16, ev.eq_17, ev.eq_18, ev.eq_19, ev.eq_20, ev.eq_21, ev.eq_22, ev.eq_23, evs, evo, evIt, MP.R.bind_ok, MP.R.bind_err, notBo_fz, notBo_fr, retK_fz, retK_fr, retK_bo, noErr_ok, binD.eq_1, binD.eq_2, binD.eq_3, binD.eq_4, binD.eq_5, binD.eq_6, binD.eq_7, binD.eq_8, binD.eq_9, binD.eq_10, binD.eq_11, cmpD.eq_3, cmpD.eq_4, cmpD.eq_5, cmpD.eq_6, cmpD.eq_7, cmpD.eq_8, cmpD.eq_9, cmpD.eq_10, cmpD.eq_11, cmpD.eq_12, cmpD.eq_13, ixD.eq_1, ixD.eq_2, ixD.eq_3, ixD.eq_4, ixD.eq_5, biD.eq_1, biD.eq_2, biD.eq_3, biD.eq_4, biD.eq_5, biD.eq_6, biD.eq_7, biD.eq_8, biD.eq_9, biD.eq_10, biD.eq_11, biD.eq_12, biD.eq_13, biD.eq_14, biD.eq_15, biD.eq_16, biD.eq_17, biD.eq_18, biD.eq_19, biD.eq_20, biD.eq_21, biD.eq_22, biD.eq_23, slD.eq_1, slD.eq_2, slD.eq_3, negD.eq_1, isi_int_int, isi_int_bool, isi_str_str, isi_tup_tup, notBos, asInt, asStr, asDic, rOpt, optOk, callD, isBo, bindTg, bindSlots, wipeD, ownL, ownK, ownAt, appD, extD.eq_1, putD.eq_1, putD.eq_2, setOwn, freeze, itemsD.eq_1, itemsD.eq_2, itemsD.eq_3, rng1D.eq_1, rng2D.eq_1, small62, Int.toNat_natCast, turnF, turnL, cast0, cast1, cast2, cast3, cast4, decide_true, decide_false,  freeze, app_len, rep_len,  inD.eq_1, inD.eq_2, inD.eq_3, tyD, MP.isNon, optCons, grd_T, slots_cons, slots_nil, immut, immuts, Option.map_some, Option.map_none, Option.getD_some, Option.getD_none, Option.bind_some, List.getElem?_cons_zero, List.getElem?_cons_succ, List.set_cons_zero, List.set_cons_succ, List.map_cons, List.map_nil, List.any_cons, List.any_nil, List.length_cons, List.length_nil, Nat.reduceAdd, Nat.reduceSub, List.replicate_succ, List.replicate_zero, List.cons_append, List.nil_append, Bool.or_false, Bool.false_and, Bool.and_false, Bool.false_eq_true, if_false, if_true, reduceIte, Bool.not_true, Bool.not_false, ne_eq, not_false_eq_true, and_true, true_and, and_self, Int.reduceEq, Int.reduceNe, not_true_eq_false, Int.reduceToNat, Int.reducePow, Int.reduceMul, Int.reduceAdd, Int.reduceSub, Int.reduceNeg, Nat.reduceLT, okD_int, okD_non, okD_bl, eqD_int, cmp_eqI, cmp_neI, at_0, at_1, at_2, at_3, at_4, cut_1, k_is_is, k_is_nought, k_is_input, k_is_power, k_is_less, k_is_plus, k_is_minus, k_is_times, k_is_over, ki_is, k_nought_is, k_nought_nought, k_nought_input, k_nought_power, k_nought_less, k_nought_plus, k_nought_minus, k_nought_times, k_nought_over, ki_nought, k_input_is, k_input_nought, k_input_input, k_input_power, k_input_less, k_input_plus, k_input_minus, k_input_times, k_input_over, ki_input, k_power_is, k_power_nought, k_power_input, k_power_power, k_power_less, k_power_plus, k_power_minus, k_power_times, k_power_over, ki_power, k_less_is, k_less_nought, k_less_input, k_less_power, k_less_less, k_less_plus, k_less_minus, k_less_times, k_less_over, ki_less, ko_is, ko_nought, ko_input, ko_power, ko_less, ko_plus, ko_minus, ko_times, ko_over, ki_o, c0, c1, c2, c3, cb, ew, eb, ed, er, ex, ht, hn, rangeD_eq, List.length_map, List.length_range, grd_pos, fmodP, fdivP]
  generalize hX : evItems _ _ = X
  have eX := items_mapG hX (fun k : Nat => D.int (cell ns (4 + k))) ?_
  · subst eX
    clear hX
    simp (disch := first | omega | (apply cmx <;> omega) | (apply dvok <;> omega) | decide | fail) only [runD, s_cons, s_nil, s_frz, s_fgt, seq_next, seq_ret, seq_err, s_ifs, if_t, if_f, s_fors, s_whl, s_asg, s_nm_fz, s_nm_fr, s_tp, s_ret, s_rse, s_put, s_app, s_ext, s_par, e_and, e_or, and_t, and_f, or_t, or_f, test_bl, e_lc, ev.eq_1, ev.eq_2, ev.eq_3, ev.eq_4, ev.eq_5, ev.eq_6, ev.eq_7, ev.eq_8, ev.eq_9, ev.eq_12, ev.eq_13, ev.eq_14, ev.eq_15, ev.eq_16, ev.eq_17, ev.eq_18, ev.eq_19, ev.eq_20, ev.eq_21, ev.eq_22, ev.eq_23, evs, evo, evIt, MP.R.bind_ok, MP.R.bind_err, notBo_fz, notBo_fr, retK_fz, retK_fr, retK_bo, noErr_ok, binD.eq_1, binD.eq_2, binD.eq_3, binD.eq_4, binD.eq_5, binD.eq_6, binD.eq_7, binD.eq_8, binD.eq_9, binD.eq_10, binD.eq_11, cmpD.eq_3, cmpD.eq_4, cmpD.eq_5, cmpD.eq_6, cmpD.eq_7, cmpD.eq_8, cmpD.eq_9, cmpD.eq_10, cmpD.eq_11, cmpD.eq_12, cmpD.eq_13, ixD.eq_1, ixD.eq_2, ixD.eq_3, ixD.eq_4, ixD.eq_5, biD.eq_1, biD.eq_2, biD.eq_3, biD.eq_4, biD.eq_5, biD.eq_6, biD.eq_7, biD.eq_8, biD.eq_9, biD.eq_10, biD.eq_11, biD.eq_12, biD.eq_13, biD.eq_14, biD.eq_15, biD.eq_16, biD.eq_17, biD.eq_18, biD.eq_19, biD.eq_20, biD.eq_21, biD.eq_22, biD.eq_23, slD.eq_1, slD.eq_2, slD.eq_3, negD.eq_1, isi_int_int, isi_int_bool, isi_str_str, isi_tup_tup, notBos, asInt, asStr, asDic, rOpt, optOk, callD, isBo, bindTg, bindSlots, wipeD, ownL, ownK, ownAt, appD, extD.eq_1, putD.eq_1, putD.eq_2, setOwn, freeze, itemsD.eq_1, itemsD.eq_2, itemsD.eq_3, rng1D.eq_1, rng2D.eq_1, small62, Int.toNat_natCast, turnF, turnL, cast0, cast1, cast2, cast3, cast4, decide_true, decide_false,  freeze, app_len, rep_len,  inD.eq_1, inD.eq_2, inD.eq_3, tyD, MP.isNon, optCons, grd_T, slots_cons, slots_nil, immut, immuts, Option.map_some, Option.map_none, Option.getD_some, Option.getD_none, Option.bind_some, List.getElem?_cons_zero, List.getElem?_cons_succ, List.set_cons_zero, List.set_cons_succ, List.map_cons, List.map_nil, List.any_cons, List.any_nil, List.length_cons, List.length_nil, Nat.reduceAdd, Nat.reduceSub, List.replicate_succ, List.replicate_zero, List.cons_append, List.nil_append, Bool.or_false, Bool.false_and, Bool.and_false, Bool.false_eq_true, if_false, if_true, reduceIte, Bool.not_true, Bool.not_false, ne_eq, not_false_eq_true, and_true, true_and, and_self, Int.reduceEq, Int.reduceNe, not_true_eq_false, Int.reduceToNat, Int.reducePow, Int.reduceMul, Int.reduceAdd, Int.reduceSub, Int.reduceNeg, Nat.reduceLT, okD_int, okD_non, okD_bl, eqD_int, cmp_eqI, cmp_neI, at_0, at_1, at_2, at_3, at_4, cut_1, k_is_is, k_is_nought, k_is_input, k_is_power, k_is_less, k_is_plus, k_is_minus, k_is_times, k_is_over, ki_is, k_nought_is, k_nought_nought, k_nought_input, k_nought_power, k_nought_less, k_nought_plus, k_nought_minus, k_nought_times, k_nought_over, ki_nought, k_input_is, k_input_nought, k_input_input, k_input_power, k_input_less, k_input_plus, k_input_minus, k_input_times, k_input_over, ki_input, k_power_is, k_power_nought, k_power_input, k_power_power, k_power_less, k_power_plus, k_power_minus, k_power_times, k_power_over, ki_power, k_less_is, k_less_nought, k_less_input, k_less_power, k_less_less, k_less_plus, k_less_minus, k_less_times, k_less_over, ki_less, ko_is, ko_nought, ko_input, ko_power, ko_less, ko_plus, ko_minus, ko_times, ko_over, ki_o, grd_pos, fmodP, fdivP]
    generalize hX : exFor _ _ _ _ = X
    refine for_invG hX (fun xs σ => ∃ r : Rk, σ = [some (.scr ns, false), some (.lst (ws.map .str), false), some (.lst (bs.map .str), false), some (r.d, false), some (.int t, false), none, none, none, none, none, none, none, none, none] ∧
        r.Ok 3 20 (· ∈ ws) ∧ r.ht + xs.length ≤ 9 ∧ r.size + 2 * xs.length ≤ 200) ⟨r0, rfl, ok0, by rw [List.length_range]; omega, by rw [List.length_range]; omega⟩ ?step ?rest
    case step =>
      clear hX
      rintro k xs σ ⟨r, rfl, ok, hh, hs⟩
      rw [List.length_cons] at hh hs
      obtain ⟨z1, z2⟩ := cell_ge ns (4 + k)
      generalize cell ns (4 + k) = z at z1 z2
      obtain ⟨o, eo⟩ := at_ops3 (i := z % 3) (by omega) (by omega)
      obtain ⟨lf, el, okl, lh, lp, lsz⟩ := lleaf_eq (c := z / 3) (by omega) (by omega) Wws Wbs
      simp (disch := first | omega | (apply cmx <;> omega) | (apply dvok <;> omega) | decide | fail) only [runD, s_cons, s_nil, s_frz, s_fgt, seq_next, seq_ret, seq_err, s_ifs, if_t, if_f, s_fors, s_whl, s_asg, s_nm_fz, s_nm_fr, s_tp, s_ret, s_rse, s_put, s_app, s_ext, s_par, e_and, e_or, and_t, and_f, or_t, or_f, test_bl, e_lc, ev.eq_1, ev.eq_2, ev.eq_3, ev.eq_4, ev.eq_5, ev.eq_6, ev.eq_7, ev.eq_8, ev.eq_9, ev.eq_12, ev.eq_13, ev.eq_14, ev.eq_15, ev.eq_16, ev.eq_17, ev.eq_18, ev.eq_19, ev.eq_20, ev.eq_21, ev.eq_22, ev.eq_23, evs, evo, evIt, MP.R.bind_ok, MP.R.bind_err, notBo_fz, notBo_fr, retK_fz, retK_fr, retK_bo, noErr_ok, binD.eq_1, binD.eq_2, binD.eq_3, binD.eq_4, binD.eq_5, binD.eq_6, binD.eq_7, binD.eq_8, binD.eq_9, binD.eq_10, binD.eq_11, cmpD.eq_3, cmpD.eq_4, cmpD.eq_5, cmpD.eq_6, cmpD.eq_7, cmpD.eq_8, cmpD.eq_9, cmpD.eq_10, cmpD.eq_11, cmpD.eq_12, cmpD.eq_13, ixD.eq_1, ixD.eq_2, ixD.eq_3, ixD.eq_4, ixD.eq_5, biD.eq_1, biD.eq_2, biD.eq_3, biD.eq_4, biD.eq_5, biD.eq_6, biD.eq_7, biD.eq_8, biD.eq_9, biD.eq_10, biD.eq_11, biD.eq_12, biD.eq_13, biD.eq_14, biD.eq_15, biD.eq_16, biD.eq_17, biD.eq_18, biD.eq_19, biD.eq_20, biD.eq_21, biD.eq_22, biD.eq_23, slD.eq_1, slD.eq_2, slD.eq_3, negD.eq_1, isi_int_int, isi_int_bool, isi_str_str, isi_tup_tup, notBos, asInt, asStr, asDic, rOpt, optOk, callD, isBo, bindTg, bindSlots, wipeD, ownL, ownK, ownAt, appD, extD.eq_1, putD.eq_1, putD.eq_2, setOwn, freeze, itemsD.eq_1, itemsD.eq_2, itemsD.eq_3, rng1D.eq_1, rng2D.eq_1, small62, Int.toNat_natCast, turnF, turnL, cast0, cast1, cast2, cast3, cast4, decide_true, decide_false,  freeze, app_len, rep_len,  inD.eq_1, inD.eq_2, inD.eq_3, tyD, MP.isNon, optCons, grd_T, slots_cons, slots_nil, immut, immuts, Option.map_some, Option.map_none, Option.getD_some, Option.getD_none, Option.bind_some, List.getElem?_cons_zero, List.getElem?_cons_succ, List.set_cons_zero, List.set_cons_succ, List.map_cons, List.map_nil, List.any_cons, List.any_nil, List.length_cons, List.length_nil, Nat.reduceAdd, Nat.reduceSub, List.replicate_succ, List.replicate_zero, List.cons_append, List.nil_append, Bool.or_false, Bool.false_and, Bool.and_false, Bool.false_eq_true, if_false, if_true, reduceIte, Bool.not_true, Bool.not_false, ne_eq, not_false_eq_true, and_true, true_and, and_self, Int.reduceEq, Int.reduceNe, not_true_eq_false, Int.reduceToNat, Int.reducePow, Int.reduceMul, Int.reduceAdd, Int.reduceSub, Int.reduceNeg, Nat.reduceLT, okD_int, okD_non, okD_bl, eqD_int, cmp_eqI, cmp_neI, at_0, at_1, at_2, at_3, at_4, cut_1, k_is_is, k_is_nought, k_is_input, k_is_power, k_is_less, k_is_plus, k_is_minus, k_is_times, k_is_over, ki_is, k_nought_is, k_nought_nought, k_nought_input, k_nought_power, k_nought_less, k_nought_plus, k_nought_minus, k_nought_times, k_nought_over, ki_nought, k_input_is, k_input_nought, k_input_input, k_input_power, k_input_less, k_input_plus, k_input_minus, k_input_times, k_input_over, ki_input, k_power_is, k_power_nought, k_power_input, k_power_power, k_power_less, k_power_plus, k_power_minus, k_power_times, k_power_over, ki_power, k_less_is, k_less_nought, k_less_input, k_less_power, k_less_less, k_less_plus, k_less_minus, k_less_times, k_less_over, ki_less, ko_is, ko_nought, ko_input, ko_power, ko_less, ko_plus, ko_minus, ko_times, ko_over, ki_o, eo, el, grd_pos, fmodP, fdivP]
      refine ⟨_, rfl, .bin o lf r, rfl, ⟨okl, ok⟩, by simp only [Rk.ht]; omega, by simp only [Rk.size]; omega⟩
    case rest =>
      rintro σ' ⟨r, rfl, ok, hh, hs⟩ rfl
      clear hX
      simp only [List.length_nil] at hh hs
      have e1 := linputs_eq r 20 (by omega) (by omega)
      have e2 := lnoughts_eq r 20 (by omega)
      have l1 := r.ins_size
      have l2 := sinS_len r.ins
      have l3 := r.nn_size
      have nd := sinS_nodup r.ins
      have hin : ∀ s ∈ sinS r.ins, s ∈ ws := fun s hs => Rk.Ok_in ok s (sinS_mem.mp hs)
      have hin2 : ∀ s ∈ r.ins, s ∈ sinS r.ins := fun s hs => sinS_mem.mpr hs
      have hl : ∀ s ∈ ws, s.length ≤ 100 := fun s hs => Nat.le_trans (hw s hs).1.1 (by decide)
      obtain ⟨fa, fm⟩ := alike_eq (lettered_eq Wws.t ok (by omega) (by omega) (Rk.Ok_in ok) hl)
      generalize sinS r.ins = L at *
      simp (disch := first | omega | (apply cmx <;> omega) | (apply dvok <;> omega) | decide | fail) only [runD, s_cons, s_nil, s_frz, s_fgt, seq_next, seq_ret, seq_err, s_ifs, if_t, if_f, s_fors, s_whl, s_asg, s_nm_fz, s_nm_fr, s_tp, s_ret, s_rse, s_put, s_app, s_ext, s_par, e_and, e_or, and_t, and_f, or_t, or_f, test_bl, e_lc, ev.eq_1, ev.eq_2, ev.eq_3, ev.eq_4, ev.eq_5, ev.eq_6, ev.eq_7, ev.eq_8, ev.eq_9, ev.eq_12, ev.eq_13, ev.eq_14, ev.eq_15, ev.eq_16, ev.eq_17, ev.eq_18, ev.eq_19, ev.eq_20, ev.eq_21, ev.eq_22, ev.eq_23, evs, evo, evIt, MP.R.bind_ok, MP.R.bind_err, notBo_fz, notBo_fr, retK_fz, retK_fr, retK_bo, noErr_ok, binD.eq_1, binD.eq_2, binD.eq_3, binD.eq_4, binD.eq_5, binD.eq_6, binD.eq_7, binD.eq_8, binD.eq_9, binD.eq_10, binD.eq_11, cmpD.eq_3, cmpD.eq_4, cmpD.eq_5, cmpD.eq_6, cmpD.eq_7, cmpD.eq_8, cmpD.eq_9, cmpD.eq_10, cmpD.eq_11, cmpD.eq_12, cmpD.eq_13, ixD.eq_1, ixD.eq_2, ixD.eq_3, ixD.eq_4, ixD.eq_5, biD.eq_1, biD.eq_2, biD.eq_3, biD.eq_4, biD.eq_5, biD.eq_6, biD.eq_7, biD.eq_8, biD.eq_9, biD.eq_10, biD.eq_11, biD.eq_12, biD.eq_13, biD.eq_14, biD.eq_15, biD.eq_16, biD.eq_17, biD.eq_18, biD.eq_19, biD.eq_20, biD.eq_21, biD.eq_22, biD.eq_23, slD.eq_1, slD.eq_2, slD.eq_3, negD.eq_1, isi_int_int, isi_int_bool, isi_str_str, isi_tup_tup, notBos, asInt, asStr, asDic, rOpt, optOk, callD, isBo, bindTg, bindSlots, wipeD, ownL, ownK, ownAt, appD, extD.eq_1, putD.eq_1, putD.eq_2, setOwn, freeze, itemsD.eq_1, itemsD.eq_2, itemsD.eq_3, rng1D.eq_1, rng2D.eq_1, small62, Int.toNat_natCast, turnF, turnL, cast0, cast1, cast2, cast3, cast4, decide_true, decide_false,  freeze, app_len, rep_len,  inD.eq_1, inD.eq_2, inD.eq_3, tyD, MP.isNon, optCons, grd_T, slots_cons, slots_nil, immut, immuts, Option.map_some, Option.map_none, Option.getD_some, Option.getD_none, Option.bind_some, List.getElem?_cons_zero, List.getElem?_cons_succ, List.set_cons_zero, List.set_cons_succ, List.map_cons, List.map_nil, List.any_cons, List.any_nil, List.length_cons, List.length_nil, Nat.reduceAdd, Nat.reduceSub, List.replicate_succ, List.replicate_zero, List.cons_append, List.nil_append, Bool.or_false, Bool.false_and, Bool.and_false, Bool.false_eq_true, if_false, if_true, reduceIte, Bool.not_true, Bool.not_false, ne_eq, not_false_eq_true, and_true, true_and, and_self, Int.reduceEq, Int.reduceNe, not_true_eq_false, Int.reduceToNat, Int.reducePow, Int.reduceMul, Int.reduceAdd, Int.reduceSub, Int.reduceNeg, Nat.reduceLT, okD_int, okD_non, okD_bl, eqD_int, cmp_eqI, cmp_neI, at_0, at_1, at_2, at_3, at_4, cut_1, k_is_is, k_is_nought, k_is_input, k_is_power, k_is_less, k_is_plus, k_is_minus, k_is_times, k_is_over, ki_is, k_nought_is, k_nought_nought, k_nought_input, k_nought_power, k_nought_less, k_nought_plus, k_nought_minus, k_nought_times, k_nought_over, ki_nought, k_input_is, k_input_nought, k_input_input, k_input_power, k_input_less, k_input_plus, k_input_minus, k_input_times, k_input_over, ki_input, k_power_is, k_power_nought, k_power_input, k_power_power, k_power_less, k_power_plus, k_power_minus, k_power_times, k_power_over, ki_power, k_less_is, k_less_nought, k_less_input, k_less_power, k_less_less, k_less_plus, k_less_minus, k_less_times, k_less_over, ki_less, ko_is, ko_nought, ko_input, ko_power, ko_less, ko_plus, ko_minus, ko_times, ko_over, ki_o, e1, e2, grd_pos]
      generalize hX : exFor _ _ _ _ = X
      refine for_invG hX (fun xs σ => ∃ dn : List Str, dn ++ xs = L ∧ σ = [some (.scr ns, false), some (.lst (ws.map .str), false), some (.lst (bs.map .str), false), some (r.d, false), some (.int t, false), none, some (.dic (nmD dn), true), none, none, none, none, none, none, none]) ⟨[], rfl, rfl⟩ ?step ?rest
      case step =>
        clear hX
        rintro x xs σ ⟨dn, rfl, rfl⟩
        have hx := hl x (hin x (by simp))
        have le : Str.length ("=" : Str) = 1 := rfl
        have fr : x ∉ (nmD dn).map (·.1) := by
          unfold nmD
          rw [List.map_map]
          intro z
          rw [List.nodup_append] at nd
          obtain ⟨y, hy, q⟩ := List.mem_map.mp z
          exact nd.2.2 y hy x List.mem_cons_self q
        have ed := fun d => dput_new (d := d) fr
        have ln : (nmD dn).length ≤ 4000 := by unfold nmD; rw [List.length_map]; rw [List.length_append] at l2; omega
        simp (disch := first | omega | (apply cmx <;> omega) | (apply dvok <;> omega) | decide | fail) only [runD, s_cons, s_nil, s_frz, s_fgt, seq_next, seq_ret, seq_err, s_ifs, if_t, if_f, s_fors, s_whl, s_asg, s_nm_fz, s_nm_fr, s_tp, s_ret, s_rse, s_put, s_app, s_ext, s_par, e_and, e_or, and_t, and_f, or_t, or_f, test_bl, e_lc, ev.eq_1, ev.eq_2, ev.eq_3, ev.eq_4, ev.eq_5, ev.eq_6, ev.eq_7, ev.eq_8, ev.eq_9, ev.eq_12, ev.eq_13, ev.eq_14, ev.eq_15, ev.eq_16, ev.eq_17, ev.eq_18, ev.eq_19, ev.eq_20, ev.eq_21, ev.eq_22, ev.eq_23, evs, evo, evIt, MP.R.bind_ok, MP.R.bind_err, notBo_fz, notBo_fr, retK_fz, retK_fr, retK_bo, noErr_ok, binD.eq_1, binD.eq_2, binD.eq_3, binD.eq_4, binD.eq_5, binD.eq_6, binD.eq_7, binD.eq_8, binD.eq_9, binD.eq_10, binD.eq_11, cmpD.eq_3, cmpD.eq_4, cmpD.eq_5, cmpD.eq_6, cmpD.eq_7, cmpD.eq_8, cmpD.eq_9, cmpD.eq_10, cmpD.eq_11, cmpD.eq_12, cmpD.eq_13, ixD.eq_1, ixD.eq_2, ixD.eq_3, ixD.eq_4, ixD.eq_5, biD.eq_1, biD.eq_2, biD.eq_3, biD.eq_4, biD.eq_5, biD.eq_6, biD.eq_7, biD.eq_8, biD.eq_9, biD.eq_10, biD.eq_11, biD.eq_12, biD.eq_13, biD.eq_14, biD.eq_15, biD.eq_16, biD.eq_17, biD.eq_18, biD.eq_19, biD.eq_20, biD.eq_21, biD.eq_22, biD.eq_23, slD.eq_1, slD.eq_2, slD.eq_3, negD.eq_1, isi_int_int, isi_int_bool, isi_str_str, isi_tup_tup, notBos, asInt, asStr, asDic, rOpt, optOk, callD, isBo, bindTg, bindSlots, wipeD, ownL, ownK, ownAt, appD, extD.eq_1, putD.eq_1, putD.eq_2, setOwn, freeze, itemsD.eq_1, itemsD.eq_2, itemsD.eq_3, rng1D.eq_1, rng2D.eq_1, small62, Int.toNat_natCast, turnF, turnL, cast0, cast1, cast2, cast3, cast4, decide_true, decide_false,  freeze, app_len, rep_len,  inD.eq_1, inD.eq_2, inD.eq_3, tyD, MP.isNon, optCons, grd_T, slots_cons, slots_nil, immut, immuts, Option.map_some, Option.map_none, Option.getD_some, Option.getD_none, Option.bind_some, List.getElem?_cons_zero, List.getElem?_cons_succ, List.set_cons_zero, List.set_cons_succ, List.map_cons, List.map_nil, List.any_cons, List.any_nil, List.length_cons, List.length_nil, Nat.reduceAdd, Nat.reduceSub, List.replicate_succ, List.replicate_zero, List.cons_append, List.nil_append, Bool.or_false, Bool.false_and, Bool.and_false, Bool.false_eq_true, if_false, if_true, reduceIte, Bool.not_true, Bool.not_false, ne_eq, not_false_eq_true, and_true, true_and, and_self, Int.reduceEq, Int.reduceNe, not_true_eq_false, Int.reduceToNat, Int.reducePow, Int.reduceMul, Int.reduceAdd, Int.reduceSub, Int.reduceNeg, Nat.reduceLT, okD_int, okD_non, okD_bl, eqD_int, cmp_eqI, cmp_neI, at_0, at_1, at_2, at_3, at_4, cut_1, k_is_is, k_is_nought, k_is_input, k_is_power, k_is_less, k_is_plus, k_is_minus, k_is_times, k_is_over, ki_is, k_nought_is, k_nought_nought, k_nought_input, k_nought_power, k_nought_less, k_nought_plus, k_nought_minus, k_nought_times, k_nought_over, ki_nought, k_input_is, k_input_nought, k_input_input, k_input_power, k_input_less, k_input_plus, k_input_minus, k_input_times, k_input_over, ki_input, k_power_is, k_power_nought, k_power_input, k_power_power, k_power_less, k_power_plus, k_power_minus, k_power_times, k_power_over, ki_power, k_less_is, k_less_nought, k_less_input, k_less_power, k_less_less, k_less_plus, k_less_minus, k_less_times, k_less_over, ki_less, ko_is, ko_nought, ko_input, ko_power, ko_less, ko_plus, ko_minus, ko_times, ko_over, ki_o, le, ed, grd_pos]
        refine ⟨_, rfl, dn ++ [x], by simp, ?_⟩
        unfold nmD
        rw [List.map_append]
        rfl
      case rest =>
        rintro σ' ⟨dn, e, rfl⟩ rfl
        rw [List.append_nil] at e
        subst e
        clear hX
        simp (disch := first | omega | (apply cmx <;> omega) | (apply dvok <;> omega) | decide | fail) only [runD, s_cons, s_nil, s_frz, s_fgt, seq_next, seq_ret, seq_err, s_ifs, if_t, if_f, s_fors, s_whl, s_asg, s_nm_fz, s_nm_fr, s_tp, s_ret, s_rse, s_put, s_app, s_ext, s_par, e_and, e_or, and_t, and_f, or_t, or_f, test_bl, e_lc, ev.eq_1, ev.eq_2, ev.eq_3, ev.eq_4, ev.eq_5, ev.eq_6, ev.eq_7, ev.eq_8, ev.eq_9, ev.eq_12, ev.eq_13, ev.eq_14, ev.eq_15, ev.eq_16, ev.eq_17, ev.eq_18, ev.eq_19, ev.eq_20, ev.eq_21, ev.eq_22, ev.eq_23, evs, evo, evIt, MP.R.bind_ok, MP.R.bind_err, notBo_fz, notBo_fr, retK_fz, retK_fr, retK_bo, noErr_ok, binD.eq_1, binD.eq_2, binD.eq_3, binD.eq_4, binD.eq_5, binD.eq_6, binD.eq_7, binD.eq_8, binD.eq_9, binD.eq_10, binD.eq_11, cmpD.eq_3, cmpD.eq_4, cmpD.eq_5, cmpD.eq_6, cmpD.eq_7, cmpD.eq_8, cmpD.eq_9, cmpD.eq_10, cmpD.eq_11, cmpD.eq_12, cmpD.eq_13, ixD.eq_1, ixD.eq_2, ixD.eq_3, ixD.eq_4, ixD.eq_5, biD.eq_1, biD.eq_2, biD.eq_3, biD.eq_4, biD.eq_5, biD.eq_6, biD.eq_7, biD.eq_8, biD.eq_9, biD.eq_10, biD.eq_11, biD.eq_12, biD.eq_13, biD.eq_14, biD.eq_15, biD.eq_16, biD.eq_17, biD.eq_18, biD.eq_19, biD.eq_20, biD.eq_21, biD.eq_22, biD.eq_23, slD.eq_1, slD.eq_2, slD.eq_3, negD.eq_1, isi_int_int, isi_int_bool, isi_str_str, isi_tup_tup, notBos, asInt, asStr, asDic, rOpt, optOk, callD, isBo, bindTg, bindSlots, wipeD, ownL, ownK, ownAt, appD, extD.eq_1, putD.eq_1, putD.eq_2, setOwn, freeze, itemsD.eq_1, itemsD.eq_2, itemsD.eq_3, rng1D.eq_1, rng2D.eq_1, small62, Int.toNat_natCast, turnF, turnL, cast0, cast1, cast2, cast3, cast4, decide_true, decide_false,  freeze, app_len, rep_len,  inD.eq_1, inD.eq_2, inD.eq_3, tyD, MP.isNon, optCons, grd_T, slots_cons, slots_nil, immut, immuts, Option.map_some, Option.map_none, Option.getD_some, Option.getD_none, Option.bind_some, List.getElem?_cons_zero, List.getElem?_cons_succ, List.set_cons_zero, List.set_cons_succ, List.map_cons, List.map_nil, List.any_cons, List.any_nil, List.length_cons, List.length_nil, Nat.reduceAdd, Nat.reduceSub, List.replicate_succ, List.replicate_zero, List.cons_append, List.nil_append, Bool.or_false, Bool.false_and, Bool.and_false, Bool.false_eq_true, if_false, if_true, reduceIte, Bool.not_true, Bool.not_false, ne_eq, not_false_eq_true, and_true, true_and, and_self, Int.reduceEq, Int.reduceNe, not_true_eq_false, Int.reduceToNat, Int.reducePow, Int.reduceMul, Int.reduceAdd, Int.reduceSub, Int.reduceNeg, Nat.reduceLT, okD_int, okD_non, okD_bl, eqD_int, cmp_eqI, cmp_neI, at_0, at_1, at_2, at_3, at_4, cut_1, k_is_is, k_is_nought, k_is_input, k_is_power, k_is_less, k_is_plus, k_is_minus, k_is_times, k_is_over, ki_is, k_nought_is, k_nought_nought, k_nought_input, k_nought_power, k_nought_less, k_nought_plus, k_nought_minus, k_nought_times, k_nought_over, ki_nought, k_input_is, k_input_nought, k_input_input, k_input_power, k_input_less, k_input_plus, k_input_minus, k_input_times, k_input_over, ki_input, k_power_is, k_power_nought, k_power_input, k_power_power, k_power_less, k_power_plus, k_power_minus, k_power_times, k_power_over, ki_power, k_less_is, k_less_nought, k_less_input, k_less_power, k_less_less, k_less_plus, k_less_minus, k_less_times, k_less_over, ki_less, ko_is, ko_nought, ko_input, ko_power, ko_less, ko_plus, ko_minus, ko_times, ko_over, ki_o, e2, range0, List.length_map, List.length_range, grd_pos]
        generalize hX : evItems _ _ = X
        have eX := items_mapG hX (fun k : Nat => msD (ngM k)) ?_
        · subst eX
          have ewk := (lwalk_eq (l := 3) (c := 20) (N := (· ∈ r.ins)) (nm := eqM) (ks := nmD dn) (by decide) (by decide) (by decide) (fun s hs => (eqM_bm (Wws.t s (Rk.Ok_in ok s hs))).mono (by decide) (by decide)) (fun s hs => dget_map (hin2 s hs)) r 20 (ngL r.nn) (fun g hg => (ngL_bm (by omega) g hg).mono (by decide) (by decide)) (by rw [ngL_len]; omega) (by omega) (by omega) (Rk.Ok_ins ok) (by rw [ngL_len]; omega) (by omega)).1
          have hbm := walk_bm (l := 3) (c := 20) (N := (· ∈ r.ins)) (nm := eqM) (by decide) (fun s hs => (eqM_bm (Wws.t s (Rk.Ok_in ok s hs))).mono (by decide) (by decide)) r (ngL r.nn) (fun g hg => (ngL_bm (by omega) g hg).mono (by decide) (by decide)) (Rk.Ok_ins ok)
          have eG : List.map (fun k => msD (ngM k)) (List.range r.nn) = (ngL r.nn).map msD := by unfold ngL; rw [List.map_map]; rfl
          have mm : ∀ m ∈ (walkR r eqM (ngL r.nn)).2, Meas m := fun m hm => (hbm.2 m hm).m
          have m0 := hbm.1.m
          generalize walkR r eqM (ngL r.nn) = W at *
          simp (disch := first | omega | (apply cmx <;> omega) | (apply dvok <;> omega) | decide | fail) only [isi_lst_lst, ne_mss mm, runD, s_cons, s_nil, s_frz, s_fgt, seq_next, seq_ret, seq_err, s_ifs, if_t, if_f, s_fors, s_whl, s_asg, s_nm_fz, s_nm_fr, s_tp, s_ret, s_rse, s_put, s_app, s_ext, s_par, e_and, e_or, and_t, and_f, or_t, or_f, test_bl, e_lc, ev.eq_1, ev.eq_2, ev.eq_3, ev.eq_4, ev.eq_5, ev.eq_6, ev.eq_7, ev.eq_8, ev.eq_9, ev.eq_12, ev.eq_13, ev.eq_14, ev.eq_15, ev.eq_16, ev.eq_17, ev.eq_18, ev.eq_19, ev.eq_20, ev.eq_21, ev.eq_22, ev.eq_23, evs, evo, evIt, MP.R.bind_ok, MP.R.bind_err, notBo_fz, notBo_fr, retK_fz, retK_fr, retK_bo, noErr_ok, binD.eq_1, binD.eq_2, binD.eq_3, binD.eq_4, binD.eq_5, binD.eq_6, binD.eq_7, binD.eq_8, binD.eq_9, binD.eq_10, binD.eq_11, cmpD.eq_3, cmpD.eq_4, cmpD.eq_5, cmpD.eq_6, cmpD.eq_7, cmpD.eq_8, cmpD.eq_9, cmpD.eq_10, cmpD.eq_11, cmpD.eq_12, cmpD.eq_13, ixD.eq_1, ixD.eq_2, ixD.eq_3, ixD.eq_4, ixD.eq_5, biD.eq_1, biD.eq_2, biD.eq_3, biD.eq_4, biD.eq_5, biD.eq_6, biD.eq_7, biD.eq_8, biD.eq_9, biD.eq_10, biD.eq_11, biD.eq_12, biD.eq_13, biD.eq_14, biD.eq_15, biD.eq_16, biD.eq_17, biD.eq_18, biD.eq_19, biD.eq_20, biD.eq_21, biD.eq_22, biD.eq_23, slD.eq_1, slD.eq_2, slD.eq_3, negD.eq_1, isi_int_int, isi_int_bool, isi_str_str, isi_tup_tup, notBos, asInt, asStr, asDic, rOpt, optOk, callD, isBo, bindTg, bindSlots, wipeD, ownL, ownK, ownAt, appD, extD.eq_1, putD.eq_1, putD.eq_2, setOwn, freeze, itemsD.eq_1, itemsD.eq_2, itemsD.eq_3, rng1D.eq_1, rng2D.eq_1, small62, Int.toNat_natCast, turnF, turnL, cast0, cast1, cast2, cast3, cast4, decide_true, decide_false,  freeze, app_len, rep_len,  inD.eq_1, inD.eq_2, inD.eq_3, tyD, MP.isNon, optCons, grd_T, slots_cons, slots_nil, immut, immuts, Option.map_some, Option.map_none, Option.getD_some, Option.getD_none, Option.bind_some, List.getElem?_cons_zero, List.getElem?_cons_succ, List.set_cons_zero, List.set_cons_succ, List.map_cons, List.map_nil, List.any_cons, List.any_nil, List.length_cons, List.length_nil, Nat.reduceAdd, Nat.reduceSub, List.replicate_succ, List.replicate_zero, List.cons_append, List.nil_append, Bool.or_false, Bool.false_and, Bool.and_false, Bool.false_eq_true, if_false, if_true, reduceIte, Bool.not_true, Bool.not_false, ne_eq, not_false_eq_true, and_true, true_and, and_self, Int.reduceEq, Int.reduceNe, not_true_eq_false, Int.reduceToNat, Int.reducePow, Int.reduceMul, Int.reduceAdd, Int.reduceSub, Int.reduceNeg, Nat.reduceLT, okD_int, okD_non, okD_bl, eqD_int, cmp_eqI, cmp_neI, at_0, at_1, at_2, at_3, at_4, cut_1, k_is_is, k_is_nought, k_is_input, k_is_power, k_is_less, k_is_plus, k_is_minus, k_is_times, k_is_over, ki_is, k_nought_is, k_nought_nought, k_nought_input, k_nought_power, k_nought_less, k_nought_plus, k_nought_minus, k_nought_times, k_nought_over, ki_nought, k_input_is, k_input_nought, k_input_input, k_input_power, k_input_less, k_input_plus, k_input_minus, k_input_times, k_input_over, ki_input, k_power_is, k_power_nought, k_power_input, k_power_power, k_power_less, k_power_plus, k_power_minus, k_power_times, k_power_over, ki_power, k_less_is, k_less_nought, k_less_input, k_less_power, k_less_less, k_less_plus, k_less_minus, k_less_times, k_less_over, ki_less, ko_is, ko_nought, ko_input, ko_power, ko_less, ko_plus, ko_minus, ko_times, ko_over, ki_o, eG, ewk, fa, grd_pos]
          generalize hX : exFor _ _ _ _ = X
          refine for_invG hX (fun xs σ => (∀ m ∈ xs, Meas m) ∧ σ = [some (.scr ns, false), some (.lst (ws.map .str), false), some (.lst (bs.map .str), false), some (r.d, false), some (.int t, false), none, some (.dic (nmD dn), false), none, some (msD W.1, false), some (.lst (W.2.map msD), false), some (.lst (W.2.map msD), false), none, none, none]) ⟨mm, rfl⟩ ?step ?rest
          case step =>
            clear hX
            rintro m xs σ ⟨hm, rfl⟩
            have im := is_measure_eq (hm m List.mem_cons_self)
            simp (disch := first | omega | (apply cmx <;> omega) | (apply dvok <;> omega) | decide | fail) only [runD, s_cons, s_nil, s_frz, s_fgt, seq_next, seq_ret, seq_err, s_ifs, if_t, if_f, s_fors, s_whl, s_asg, s_nm_fz, s_nm_fr, s_tp, s_ret, s_rse, s_put, s_app, s_ext, s_par, e_and, e_or, and_t, and_f, or_t, or_f, test_bl, e_lc, ev.eq_1, ev.eq_2, ev.eq_3, ev.eq_4, ev.eq_5, ev.eq_6, ev.eq_7, ev.eq_8, ev.eq_9, ev.eq_12, ev.eq_13, ev.eq_14, ev.eq_15, ev.eq_16, ev.eq_17, ev.eq_18, ev.eq_19, ev.eq_20, ev.eq_21, ev.eq_22, ev.eq_23, evs, evo, evIt, MP.R.bind_ok, MP.R.bind_err, notBo_fz, notBo_fr, retK_fz, retK_fr, retK_bo, noErr_ok, binD.eq_1, binD.eq_2, binD.eq_3, binD.eq_4, binD.eq_5, binD.eq_6, binD.eq_7, binD.eq_8, binD.eq_9, binD.eq_10, binD.eq_11, cmpD.eq_3, cmpD.eq_4, cmpD.eq_5, cmpD.eq_6, cmpD.eq_7, cmpD.eq_8, cmpD.eq_9, cmpD.eq_10, cmpD.eq_11, cmpD.eq_12, cmpD.eq_13, ixD.eq_1, ixD.eq_2, ixD.eq_3, ixD.eq_4, ixD.eq_5, biD.eq_1, biD.eq_2, biD.eq_3, biD.eq_4, biD.eq_5, biD.eq_6, biD.eq_7, biD.eq_8, biD.eq_9, biD.eq_10, biD.eq_11, biD.eq_12, biD.eq_13, biD.eq_14, biD.eq_15, biD.eq_16, biD.eq_17, biD.eq_18, biD.eq_19, biD.eq_20, biD.eq_21, biD.eq_22, biD.eq_23, slD.eq_1, slD.eq_2, slD.eq_3, negD.eq_1, isi_int_int, isi_int_bool, isi_str_str, isi_tup_tup, notBos, asInt, asStr, asDic, rOpt, optOk, callD, isBo, bindTg, bindSlots, wipeD, ownL, ownK, ownAt, appD, extD.eq_1, putD.eq_1, putD.eq_2, setOwn, freeze, itemsD.eq_1, itemsD.eq_2, itemsD.eq_3, rng1D.eq_1, rng2D.eq_1, small62, Int.toNat_natCast, turnF, turnL, cast0, cast1, cast2, cast3, cast4, decide_true, decide_false,  freeze, app_len, rep_len,  inD.eq_1, inD.eq_2, inD.eq_3, tyD, MP.isNon, optCons, grd_T, slots_cons, slots_nil, immut, immuts, Option.map_some, Option.map_none, Option.getD_some, Option.getD_none, Option.bind_some, List.getElem?_cons_zero, List.getElem?_cons_succ, List.set_cons_zero, List.set_cons_succ, List.map_cons, List.map_nil, List.any_cons, List.any_nil, List.length_cons, List.length_nil, Nat.reduceAdd, Nat.reduceSub, List.replicate_succ, List.replicate_zero, List.cons_append, List.nil_append, Bool.or_false, Bool.false_and, Bool.and_false, Bool.false_eq_true, if_false, if_true, reduceIte, Bool.not_true, Bool.not_false, ne_eq, not_false_eq_true, and_true, true_and, and_self, Int.reduceEq, Int.reduceNe, not_true_eq_false, Int.reduceToNat, Int.reducePow, Int.reduceMul, Int.reduceAdd, Int.reduceSub, Int.reduceNeg, Nat.reduceLT, okD_int, okD_non, okD_bl, eqD_int, cmp_eqI, cmp_neI, at_0, at_1, at_2, at_3, at_4, cut_1, k_is_is, k_is_nought, k_is_input, k_is_power, k_is_less, k_is_plus, k_is_minus, k_is_times, k_is_over, ki_is, k_nought_is, k_nought_nought, k_nought_input, k_nought_power, k_nought_less, k_nought_plus, k_nought_minus, k_nought_times, k_nought_over, ki_nought, k_input_is, k_input_nought, k_input_input, k_input_power, k_input_less, k_input_plus, k_input_minus, k_input_times, k_input_over, ki_input, k_power_is, k_power_nought, k_power_input, k_power_power, k_power_less, k_power_plus, k_power_minus, k_power_times, k_power_over, ki_power, k_less_is, k_less_nought, k_less_input, k_less_power, k_less_less, k_less_plus, k_less_minus, k_less_times, k_less_over, ki_less, ko_is, ko_nought, ko_input, ko_power, ko_less, ko_plus, ko_minus, ko_times, ko_over, ki_o, im, grd_pos]
            exact ⟨_, rfl, fun m h => hm m (List.mem_cons_of_mem _ h), rfl⟩
          case rest =>
            rintro σ' ⟨_, rfl⟩ rfl
            clear hX
            have im := is_measure_eq m0
            simp (disch := first | omega | (apply cmx <;> omega) | (apply dvok <;> omega) | decide | fail) only [eq_ms m0, runD, s_cons, s_nil, s_frz, s_fgt, seq_next, seq_ret, seq_err, s_ifs, if_t, if_f, s_fors, s_whl, s_asg, s_nm_fz, s_nm_fr, s_tp, s_ret, s_rse, s_put, s_app, s_ext, s_par, e_and, e_or, and_t, and_f, or_t, or_f, test_bl, e_lc, ev.eq_1, ev.eq_2, ev.eq_3, ev.eq_4, ev.eq_5, ev.eq_6, ev.eq_7, ev.eq_8, ev.eq_9, ev.eq_12, ev.eq_13, ev.eq_14, ev.eq_15, ev.eq_16, ev.eq_17, ev.eq_18, ev.eq_19, ev.eq_20, ev.eq_21, ev.eq_22, ev.eq_23, evs, evo, evIt, MP.R.bind_ok, MP.R.bind_err, notBo_fz, notBo_fr, retK_fz, retK_fr, retK_bo, noErr_ok, binD.eq_1, binD.eq_2, binD.eq_3, binD.eq_4, binD.eq_5, binD.eq_6, binD.eq_7, binD.eq_8, binD.eq_9, binD.eq_10, binD.eq_11, cmpD.eq_3, cmpD.eq_4, cmpD.eq_5, cmpD.eq_6, cmpD.eq_7, cmpD.eq_8, cmpD.eq_9, cmpD.eq_10, cmpD.eq_11, cmpD.eq_12, cmpD.eq_13, ixD.eq_1, ixD.eq_2, ixD.eq_3, ixD.eq_4, ixD.eq_5, biD.eq_1, biD.eq_2, biD.eq_3, biD.eq_4, biD.eq_5, biD.eq_6, biD.eq_7, biD.eq_8, biD.eq_9, biD.eq_10, biD.eq_11, biD.eq_12, biD.eq_13, biD.eq_14, biD.eq_15, biD.eq_16, biD.eq_17, biD.eq_18, biD.eq_19, biD.eq_20, biD.eq_21, biD.eq_22, biD.eq_23, slD.eq_1, slD.eq_2, slD.eq_3, negD.eq_1, isi_int_int, isi_int_bool, isi_str_str, isi_tup_tup, notBos, asInt, asStr, asDic, rOpt, optOk, callD, isBo, bindTg, bindSlots, wipeD, ownL, ownK, ownAt, appD, extD.eq_1, putD.eq_1, putD.eq_2, setOwn, freeze, itemsD.eq_1, itemsD.eq_2, itemsD.eq_3, rng1D.eq_1, rng2D.eq_1, small62, Int.toNat_natCast, turnF, turnL, cast0, cast1, cast2, cast3, cast4, decide_true, decide_false,  freeze, app_len, rep_len,  inD.eq_1, inD.eq_2, inD.eq_3, tyD, MP.isNon, optCons, grd_T, slots_cons, slots_nil, immut, immuts, Option.map_some, Option.map_none, Option.getD_some, Option.getD_none, Option.bind_some, List.getElem?_cons_zero, List.getElem?_cons_succ, List.set_cons_zero, List.set_cons_succ, List.map_cons, List.map_nil, List.any_cons, List.any_nil, List.length_cons, List.length_nil, Nat.reduceAdd, Nat.reduceSub, List.replicate_succ, List.replicate_zero, List.cons_append, List.nil_append, Bool.or_false, Bool.false_and, Bool.and_false, Bool.false_eq_true, if_false, if_true, reduceIte, Bool.not_true, Bool.not_false, ne_eq, not_false_eq_true, and_true, true_and, and_self, Int.reduceEq, Int.reduceNe, not_true_eq_false, Int.reduceToNat, Int.reducePow, Int.reduceMul, Int.reduceAdd, Int.reduceSub, Int.reduceNeg, Nat.reduceLT, okD_int, okD_non, okD_bl, eqD_int, cmp_eqI, cmp_neI, at_0, at_1, at_2, at_3, at_4, cut_1, k_is_is, k_is_nought, k_is_input, k_is_power, k_is_less, k_is_plus, k_is_minus, k_is_times, k_is_over, ki_is, k_nought_is, k_nought_nought, k_nought_input, k_nought_power, k_nought_less, k_nought_plus, k_nought_minus, k_nought_times, k_nought_over, ki_nought, k_input_is, k_input_nought, k_input_input, k_input_power, k_input_less, k_input_plus, k_input_minus, k_input_times, k_input_over, ki_input, k_power_is, k_power_nought, k_power_input, k_power_power, k_power_less, k_power_plus, k_power_minus, k_power_times, k_power_over, ki_power, k_less_is, k_less_nought, k_less_input, k_less_power, k_less_less, k_less_plus, k_less_minus, k_less_times, k_less_over, ki_less, ko_is, ko_nought, ko_input, ko_power, ko_less, ko_plus, ko_minus, ko_times, ko_over, ki_o, fm, im, grd_pos]
        · clear hX
          intro k hk
          have hk := List.mem_range.mp hk
          have lg : (k : Int).natAbs.log2 < 1920 := by
            by_cases z : (k : Int).natAbs = 0
            · rw [z]; decide
            · have h : (k : Int).natAbs < 2 ^ 100 := by omega
              have := (Nat.log2_lt z).mpr h
              omega
          obtain ⟨t, p⟩ := num_tx (i := k) (by omega) (by omega)
          have t1 := t.1
          have le : Str.length ("0" : Str) = 1 := rfl
          simp (disch := first | omega | (apply cmx <;> omega) | (apply dvok <;> omega) | decide | fail) only [runD, s_cons, s_nil, s_frz, s_fgt, seq_next, seq_ret, seq_err, s_ifs, if_t, if_f, s_fors, s_whl, s_asg, s_nm_fz, s_nm_fr, s_tp, s_ret, s_rse, s_put, s_app, s_ext, s_par, e_and, e_or, and_t, and_f, or_t, or_f, test_bl, e_lc, ev.eq_1, ev.eq_2, ev.eq_3, ev.eq_4, ev.eq_5, ev.eq_6, ev.eq_7, ev.eq_8, ev.eq_9, ev.eq_12, ev.eq_13, ev.eq_14, ev.eq_15, ev.eq_16, ev.eq_17, ev.eq_18, ev.eq_19, ev.eq_20, ev.eq_21, ev.eq_22, ev.eq_23, evs, evo, evIt, MP.R.bind_ok, MP.R.bind_err, notBo_fz, notBo_fr, retK_fz, retK_fr, retK_bo, noErr_ok, binD.eq_1, binD.eq_2, binD.eq_3, binD.eq_4, binD.eq_5, binD.eq_6, binD.eq_7, binD.eq_8, binD.eq_9, binD.eq_10, binD.eq_11, cmpD.eq_3, cmpD.eq_4, cmpD.eq_5, cmpD.eq_6, cmpD.eq_7, cmpD.eq_8, cmpD.eq_9, cmpD.eq_10, cmpD.eq_11, cmpD.eq_12, cmpD.eq_13, ixD.eq_1, ixD.eq_2, ixD.eq_3, ixD.eq_4, ixD.eq_5, biD.eq_1, biD.eq_2, biD.eq_3, biD.eq_4, biD.eq_5, biD.eq_6, biD.eq_7, biD.eq_8, biD.eq_9, biD.eq_10, biD.eq_11, biD.eq_12, biD.eq_13, biD.eq_14, biD.eq_15, biD.eq_16, biD.eq_17, biD.eq_18, biD.eq_19, biD.eq_20, biD.eq_21, biD.eq_22, biD.eq_23, slD.eq_1, slD.eq_2, slD.eq_3, negD.eq_1, isi_int_int, isi_int_bool, isi_str_str, isi_tup_tup, notBos, asInt, asStr, asDic, rOpt, optOk, callD, isBo, bindTg, bindSlots, wipeD, ownL, ownK, ownAt, appD, extD.eq_1, putD.eq_1, putD.eq_2, setOwn, freeze, itemsD.eq_1, itemsD.eq_2, itemsD.eq_3, rng1D.eq_1, rng2D.eq_1, small62, Int.toNat_natCast, turnF, turnL, cast0, cast1, cast2, cast3, cast4, decide_true, decide_false,  freeze, app_len, rep_len,  inD.eq_1, inD.eq_2, inD.eq_3, tyD, MP.isNon, optCons, grd_T, slots_cons, slots_nil, immut, immuts, Option.map_some, Option.map_none, Option.getD_some, Option.getD_none, Option.bind_some, List.getElem?_cons_zero, List.getElem?_cons_succ, List.set_cons_zero, List.set_cons_succ, List.map_cons, List.map_nil, List.any_cons, List.any_nil, List.length_cons, List.length_nil, Nat.reduceAdd, Nat.reduceSub, List.replicate_succ, List.replicate_zero, List.cons_append, List.nil_append, Bool.or_false, Bool.false_and, Bool.and_false, Bool.false_eq_true, if_false, if_true, reduceIte, Bool.not_true, Bool.not_false, ne_eq, not_false_eq_true, and_true, true_and, and_self, Int.reduceEq, Int.reduceNe, not_true_eq_false, Int.reduceToNat, Int.reducePow, Int.reduceMul, Int.reduceAdd, Int.reduceSub, Int.reduceNeg, Nat.reduceLT, okD_int, okD_non, okD_bl, eqD_int, cmp_eqI, cmp_neI, at_0, at_1, at_2, at_3, at_4, cut_1, k_is_is, k_is_nought, k_is_input, k_is_power, k_is_less, k_is_plus, k_is_minus, k_is_times, k_is_over, ki_is, k_nought_is, k_nought_nought, k_nought_input, k_nought_power, k_nought_less, k_nought_plus, k_nought_minus, k_nought_times, k_nought_over, ki_nought, k_input_is, k_input_nought, k_input_input, k_input_power, k_input_less, k_input_plus, k_input_minus, k_input_times, k_input_over, ki_input, k_power_is, k_power_nought, k_power_input, k_power_power, k_power_less, k_power_plus, k_power_minus, k_power_times, k_power_over, ki_power, k_less_is, k_less_nought, k_less_input, k_less_power, k_less_less, k_less_plus, k_less_minus, k_less_times, k_less_over, ki_less, ko_is, ko_nought, ko_input, ko_power, ko_less, ko_plus, ko_minus, ko_times, ko_over, ki_o, turnL, lg, le, grd_pos]
          rfl
  · clear hX
    intro k hk
    have e : (4 : Int) + k = ((4 + k : Nat) : Int) := by omega
    have ek := cell_at_eq ns (4 + k)
    rw [← e] at ek
    simp (disch := first | omega | (apply cmx <;> omega) | (apply dvok <;> omega) | decide | fail) only [runD, s_cons, s_nil, s_frz, s_fgt, seq_next, seq_ret, seq_err, s_ifs, if_t, if_f, s_fors, s_whl, s_asg, s_nm_fz, s_nm_fr, s_tp, s_ret, s_rse, s_put, s_app, s_ext, s_par, e_and, e_or, and_t, and_f, or_t, or_f, test_bl, e_lc, ev.eq_1, ev.eq_2, ev.eq_3, ev.eq_4, ev.eq_5, ev.eq_6, ev.eq_7, ev.eq_8, ev.eq_9, ev.eq_12, ev.eq_13, ev.eq_14, ev.eq_15, ev.eq_16, ev.eq_17, ev.eq_18, ev.eq_19, ev.eq_20, ev.eq_21, ev.eq_22, ev.eq_23, evs, evo, evIt, MP.R.bind_ok, MP.R.bind_err, notBo_fz, notBo_fr, retK_fz, retK_fr, retK_bo, noErr_ok, binD.eq_1, binD.eq_2, binD.eq_3, binD.eq_4, binD.eq_5, binD.eq_6, binD.eq_7, binD.eq_8, binD.eq_9, binD.eq_10, binD.eq_11, cmpD.eq_3, cmpD.eq_4, cmpD.eq_5, cmpD.eq_6, cmpD.eq_7, cmpD.eq_8, cmpD.eq_9, cmpD.eq_10, cmpD.eq_11, cmpD.eq_12, cmpD.eq_13, ixD.eq_1, ixD.eq_2, ixD.eq_3, ixD.eq_4, ixD.eq_5, biD.eq_1, biD.eq_2, biD.eq_3, biD.eq_4, biD.eq_5, biD.eq_6, biD.eq_7, biD.eq_8, biD.eq_9, biD.eq_10, biD.eq_11, biD.eq_12, biD.eq_13, biD.eq_14, biD.eq_15, biD.eq_16, biD.eq_17, biD.eq_18, biD.eq_19, biD.eq_20, biD.eq_21, biD.eq_22, biD.eq_23, slD.eq_1, slD.eq_2, slD.eq_3, negD.eq_1, isi_int_int, isi_int_bool, isi_str_str, isi_tup_tup, notBos, asInt, asStr, asDic, rOpt, optOk, callD, isBo, bindTg, bindSlots, wipeD, ownL, ownK, ownAt, appD, extD.eq_1, putD.eq_1, putD.eq_2, setOwn, freeze, itemsD.eq_1, itemsD.eq_2, itemsD.eq_3, rng1D.eq_1, rng2D.eq_1, small62, Int.toNat_natCast, turnF, turnL, cast0, cast1, cast2, cast3, cast4, decide_true, decide_false,  freeze, app_len, rep_len,  inD.eq_1, inD.eq_2, inD.eq_3, tyD, MP.isNon, optCons, grd_T, slots_cons, slots_nil, immut, immuts, Option.map_some, Option.map_none, Option.getD_some, Option.getD_none, Option.bind_some, List.getElem?_cons_zero, List.getElem?_cons_succ, List.set_cons_zero, List.set_cons_succ, List.map_cons, List.map_nil, List.any_cons, List.any_nil, List.length_cons, List.length_nil, Nat.reduceAdd, Nat.reduceSub, List.replicate_succ, List.replicate_zero, List.cons_append, List.nil_append, Bool.or_false, Bool.false_and, Bool.and_false, Bool.false_eq_true, if_false, if_true, reduceIte, Bool.not_true, Bool.not_false, ne_eq, not_false_eq_true, and_true, true_and, and_self, Int.reduceEq, Int.reduceNe, not_true_eq_false, Int.reduceToNat, Int.reducePow, Int.reduceMul, Int.reduceAdd, Int.reduceSub, Int.reduceNeg, Nat.reduceLT, okD_int, okD_non, okD_bl, eqD_int, cmp_eqI, cmp_neI, at_0, at_1, at_2, at_3, at_4, cut_1, k_is_is, k_is_nought, k_is_input, k_is_power, k_is_less, k_is_plus, k_is_minus, k_is_times, k_is_over, ki_is, k_nought_is, k_nought_nought, k_nought_input, k_nought_power, k_nought_less, k_nought_plus, k_nought_minus, k_nought_times, k_nought_over, ki_nought, k_input_is, k_input_nought, k_input_input, k_input_power, k_input_less, k_input_plus, k_input_minus, k_input_times, k_input_over, ki_input, k_power_is, k_power_nought, k_power_input, k_power_power, k_power_less, k_power_plus, k_power_minus, k_power_times, k_power_over, ki_power, k_less_is, k_less_nought, k_less_input, k_less_power, k_less_less, k_less_plus, k_less_minus, k_less_times, k_less_over, ki_less, ko_is, ko_nought, ko_input, ko_power, ko_less, ko_plus, ko_minus, ko_times, ko_over, ki_o, turnL, ek, grd_pos]
end MPk07

theorem PySem.Challenge.cw_measurekind_k07_alike_told_holds : PySem.Challenge.rw_measurekind_k07_alike_told.Holds := by
  exact MPk07_holds fun ns _ => MPk07.law_eq ns
