import PyProof.Rows.All
import Wide.All
import OpenK.AllK
import Wide.FinOn
import HandS.ForMost
import HandS.TupAny
import HandS.Wide
import HandS.RaiseMore
import HandS.Deep
import HandS.Style
import KE.GoesEnum
import KE.GoesNew
import HandS.Zip
import HandS.Rev
import HandS.Walk
import KE.SortData
import HandS.SortInts
import HandS.Conv
import HandS.IsInst
import HandS.WordsDict
import HandS.Text
import HandS.SortKw
import HandS.Ends
import HandS.EndBits
import Open.SpecLaws
import KE.OsGo
import PySem.Challenge.RW_littleorders_k56_parts_judged
set_option Elab.async false
set_option linter.all false
set_option maxRecDepth 100000
set_option maxHeartbeats 4000000
set_option autoImplicit false
/-! The data layer: values as plain data, own lists by slot, a drawn source; over the hand layer. -/
namespace DL
open PySem L2
/-- the drawn source of a law -/
structure Src where
  cells : List Int
  left : Int
  mixed : Int
  turn : Int
abbrev G := Option Src
/-- what a slot holds -/
inductive Slot where
  | un
  | d (x : PyData)
  | own (x : PyData)
  | src (b : Bool)
  | scr (ns : List Int)
abbrev Env' := List Slot
/-- what an expression gives -/
inductive EV where
  | d (x : PyData)
  | fr (x : PyData)
  | bo (i : Nat)
  | src (b : Bool)
  | scr (ns : List Int)
inductive R (α : Type) where
  | ok (a : α) (e : Env') (g : G)
  | exc (c : Str) (x : PyData) (e : Env') (g : G)
  | bad
abbrev M (α : Type) := Env' → G → R α
def M.bind {α β : Type} (m : M α) (f : α → M β) : M β := fun e g => match m e g with
  | .ok a e g => f a e g
  | .exc c x e g => .exc c x e g
  | .bad => .bad
def M.pure {α : Type} (a : α) : M α := fun e g => .ok a e g
def M.bad {α : Type} : M α := fun _ _ => .bad
def M.opt {α : Type} (o : Option α) : M α := match o with
  | some a => M.pure a
  | none => M.bad
def Wp {α : Type} (r : R α) (K : α → Env' → G → Prop) (E : Str → PyData → Env' → G → Prop) : Prop := match r with
  | .ok a e g => K a e g
  | .exc c x e g => E c x e g
  | .bad => False
theorem Wp.mono {α : Type} {r : R α} {K K' : α → Env' → G → Prop} {E E' : Str → PyData → Env' → G → Prop} (h : Wp r K E) (hk : ∀ a e g, K a e g → K' a e g) (he : ∀ c x e g, E c x e g → E' c x e g) : Wp r K' E' := by
  cases r with
  | ok a e g => exact hk _ _ _ h
  | exc c x e g => exact he _ _ _ _ h
  | bad => exact h
theorem Wp.bind {α β : Type} {m : M α} {f : α → M β} {e : Env'} {g : G} {K : β → Env' → G → Prop} {E : Str → PyData → Env' → G → Prop} :
    Wp (m.bind f e g) K E ↔ Wp (m e g) (fun a e g => Wp (f a e g) K E) E := by
  unfold M.bind
  cases m e g <;> exact Iff.rfl
theorem Wp.pure {α : Type} {a : α} {e : Env'} {g : G} {K : α → Env' → G → Prop} {E : Str → PyData → Env' → G → Prop} : Wp (M.pure a e g) K E ↔ K a e g := Iff.rfl
theorem Wp.opt {α : Type} {o : Option α} {e : Env'} {g : G} {K : α → Env' → G → Prop} {E : Str → PyData → Env' → G → Prop} (h : Wp (M.opt o e g) K E) : ∃ a, o = some a ∧ K a e g := by
  cases o with
  | none => exact h.elim
  | some a => exact ⟨a, rfl, h⟩
/-! ### data at a value -/
mutual
def Rep (K : PySem.W.Frag) (F : Hp) (v : V) : PyData → Prop
  | .none => v = .non
  | .bool b => v = .bl b
  | .int i => v = .int i
  | .str s => v = .str s
  | .list ds => ∃ a vs, v = .ref a ∧ F a = some (.lst vs) ∧ RepL K F vs ds
  | .tuple ds => ∃ a vs, v = .ref a ∧ SqT K F a vs ∧ RepL K F vs ds
  | .dict kvs => ∃ a kv, v = .ref a ∧ F a = some (.dK kv) ∧ RepD K F kv kvs
def RepL (K : PySem.W.Frag) (F : Hp) (vs : List V) : List PyData → Prop
  | [] => vs = []
  | d :: ds => ∃ v r, vs = v :: r ∧ Rep K F v d ∧ RepL K F r ds
def RepD (K : PySem.W.Frag) (F : Hp) (kv : List (Key × V)) : List (PyData × PyData) → Prop
  | [] => kv = []
  | p :: ps => ∃ k v r, kv = (k, v) :: r ∧ Rep K F (kV k) p.1 ∧ Rep K F v p.2 ∧ RepD K F r ps
end
theorem SqL.up {K : PySem.W.Frag} {F F' : Hp} {a : Addr} {xs : List V} (s : Same F F') (h : SqL K F a xs) : SqL K F' a xs := s.seq h
theorem SqT.up {K : PySem.W.Frag} {F F' : Hp} {a : Addr} {xs : List V} (s : Same F F') (h : SqT K F a xs) : SqT K F' a xs := by
  rcases h with (h | ⟨o, h⟩) | h
  · exact .inl (.inl (s _ _ h))
  · exact .inl (.inr ⟨o, s _ _ h⟩)
  · exact .inr h
mutual
theorem Rep.up {K : PySem.W.Frag} {F F' : Hp} (s : Same F F') : ∀ (d : PyData) (v : V), Rep K F v d → Rep K F' v d
  | .none, _, h => by simpa only [Rep] using h
  | .bool b, _, h => by simpa only [Rep] using h
  | .int i, _, h => by simpa only [Rep] using h
  | .str x, _, h => by simpa only [Rep] using h
  | .list ds, v, h => by
    simp only [Rep] at h ⊢
    obtain ⟨a, vs, e, q, r⟩ := h
    exact ⟨a, vs, e, s _ _ q, RepL.up s ds vs r⟩
  | .tuple ds, v, h => by
    simp only [Rep] at h ⊢
    obtain ⟨a, vs, e, q, r⟩ := h
    exact ⟨a, vs, e, SqT.up s q, RepL.up s ds vs r⟩
  | .dict kvs, v, h => by
    simp only [Rep] at h ⊢
    obtain ⟨a, kv, e, q, r⟩ := h
    exact ⟨a, kv, e, s _ _ q, RepD.up s kvs kv r⟩
theorem RepL.up {K : PySem.W.Frag} {F F' : Hp} (s : Same F F') : ∀ (ds : List PyData) (vs : List V), RepL K F vs ds → RepL K F' vs ds
  | [], _, h => by simpa only [RepL] using h
  | d :: ds, vs, h => by
    simp only [RepL] at h ⊢
    obtain ⟨v, r, e, q, t⟩ := h
    exact ⟨v, r, e, Rep.up s d v q, RepL.up s ds r t⟩
theorem RepD.up {K : PySem.W.Frag} {F F' : Hp} (s : Same F F') : ∀ (ds : List (PyData × PyData)) (kv : List (Key × V)), RepD K F kv ds → RepD K F' kv ds
  | [], _, h => by simpa only [RepD] using h
  | p :: ps, kv, h => by
    simp only [RepD] at h ⊢
    obtain ⟨k, v, r, e, q, t, u⟩ := h
    exact ⟨k, v, r, e, Rep.up s p.1 _ q, Rep.up s p.2 v t, RepD.up s ps r u⟩
end
@[simp] theorem rep_none {K : PySem.W.Frag} {F : Hp} {v : V} : Rep K F v .none ↔ v = .non := by simp only [Rep]
@[simp] theorem rep_bool {K : PySem.W.Frag} {F : Hp} {v : V} {b : Bool} : Rep K F v (.bool b) ↔ v = .bl b := by simp only [Rep]
@[simp] theorem rep_int {K : PySem.W.Frag} {F : Hp} {v : V} {i : Int} : Rep K F v (.int i) ↔ v = .int i := by simp only [Rep]
@[simp] theorem rep_str {K : PySem.W.Frag} {F : Hp} {v : V} {s : Str} : Rep K F v (.str s) ↔ v = .str s := by simp only [Rep]
theorem rep_list {K : PySem.W.Frag} {F : Hp} {v : V} {ds : List PyData} : Rep K F v (.list ds) ↔ ∃ a vs, v = .ref a ∧ F a = some (.lst vs) ∧ RepL K F vs ds := by simp only [Rep]
theorem rep_tup {K : PySem.W.Frag} {F : Hp} {v : V} {ds : List PyData} : Rep K F v (.tuple ds) ↔ ∃ a vs, v = .ref a ∧ SqT K F a vs ∧ RepL K F vs ds := by simp only [Rep]
theorem rep_dict {K : PySem.W.Frag} {F : Hp} {v : V} {kvs : List (PyData × PyData)} : Rep K F v (.dict kvs) ↔ ∃ a kv, v = .ref a ∧ F a = some (.dK kv) ∧ RepD K F kv kvs := by simp only [Rep]
theorem repL_nil {K : PySem.W.Frag} {F : Hp} {vs : List V} : RepL K F vs [] ↔ vs = [] := by simp only [RepL]
theorem repL_cons {K : PySem.W.Frag} {F : Hp} {vs : List V} {d : PyData} {ds : List PyData} : RepL K F vs (d :: ds) ↔ ∃ v r, vs = v :: r ∧ Rep K F v d ∧ RepL K F r ds := by simp only [RepL]
theorem RepL.length {K : PySem.W.Frag} {F : Hp} : ∀ {ds : List PyData} {vs : List V}, RepL K F vs ds → vs.length = ds.length
  | [], vs, h => by rw [repL_nil] at h; rw [h]; rfl
  | d :: ds, vs, h => by
    rw [repL_cons] at h
    obtain ⟨v, r, rfl, _, t⟩ := h
    simp [RepL.length t]
theorem RepL.append {K : PySem.W.Frag} {F : Hp} : ∀ {ds es : List PyData} {vs us : List V}, RepL K F vs ds → RepL K F us es → RepL K F (vs ++ us) (ds ++ es)
  | [], _, vs, _, h, h2 => by rw [repL_nil] at h; rw [h]; exact h2
  | d :: ds, _, vs, _, h, h2 => by
    rw [repL_cons] at h
    obtain ⟨v, r, rfl, q, t⟩ := h
    exact repL_cons.mpr ⟨v, _, rfl, q, RepL.append t h2⟩
theorem RepL.get {K : PySem.W.Frag} {F : Hp} : ∀ {ds : List PyData} {vs : List V} {i : Nat} {v : V}, RepL K F vs ds → vs[i]? = some v → ∃ d, ds[i]? = some d ∧ Rep K F v d
  | [], vs, i, v, h, e => by rw [repL_nil] at h; rw [h] at e; simp at e
  | d :: ds, vs, i, v, h, e => by
    rw [repL_cons] at h
    obtain ⟨w, r, rfl, q, t⟩ := h
    cases i with
    | zero => simp at e; subst e; exact ⟨d, rfl, q⟩
    | succ i =>
      obtain ⟨x, hx, q⟩ := RepL.get (i := i) t (by simpa using e)
      exact ⟨x, by simpa using hx, q⟩
theorem RepL.get' {K : PySem.W.Frag} {F : Hp} : ∀ {ds : List PyData} {vs : List V} {i : Nat} {d : PyData}, RepL K F vs ds → ds[i]? = some d → ∃ v, vs[i]? = some v ∧ Rep K F v d
  | [], vs, i, v, h, e => by simp at e
  | d :: ds, vs, i, v, h, e => by
    rw [repL_cons] at h
    obtain ⟨w, r, rfl, q, t⟩ := h
    cases i with
    | zero => simp at e; subst e; exact ⟨w, rfl, q⟩
    | succ i =>
      obtain ⟨x, hx, q⟩ := RepL.get' (i := i) t (by simpa using e)
      exact ⟨x, by simpa using hx, q⟩
theorem RepL.set {K : PySem.W.Frag} {F : Hp} : ∀ {ds : List PyData} {vs : List V} {i : Nat} {v : V} {d : PyData}, RepL K F vs ds → Rep K F v d → RepL K F (vs.set i v) (ds.set i d)
  | [], vs, i, v, _, h, _ => by rw [repL_nil] at h; rw [h]; exact repL_nil.mpr rfl
  | d :: ds, vs, i, v, _, h, hv => by
    rw [repL_cons] at h
    obtain ⟨w, r, rfl, q, t⟩ := h
    cases i with
    | zero => exact repL_cons.mpr ⟨v, r, rfl, hv, t⟩
    | succ i => exact repL_cons.mpr ⟨w, _, rfl, q, RepL.set t hv⟩
theorem RepL.take {K : PySem.W.Frag} {F : Hp} : ∀ {ds : List PyData} {vs : List V} (n : Nat), RepL K F vs ds → RepL K F (vs.take n) (ds.take n)
  | _, _, 0, h => by simp; exact repL_nil.mpr rfl
  | [], vs, n + 1, h => by rw [repL_nil] at h; rw [h]; exact repL_nil.mpr rfl
  | d :: ds, vs, n + 1, h => by
    rw [repL_cons] at h
    obtain ⟨w, r, rfl, q, t⟩ := h
    exact repL_cons.mpr ⟨w, _, rfl, q, RepL.take n t⟩
theorem RepL.drop {K : PySem.W.Frag} {F : Hp} : ∀ {ds : List PyData} {vs : List V} (n : Nat), RepL K F vs ds → RepL K F (vs.drop n) (ds.drop n)
  | _, _, 0, h => h
  | [], vs, n + 1, h => by rw [repL_nil] at h; rw [h]; exact repL_nil.mpr rfl
  | d :: ds, vs, n + 1, h => by
    rw [repL_cons] at h
    obtain ⟨w, r, rfl, q, t⟩ := h
    exact RepL.drop n t
theorem RepL.of_map {K : PySem.W.Frag} {F : Hp} {α : Type} {f : α → V} {g : α → PyData} (h : ∀ a, Rep K F (f a) (g a)) : ∀ xs : List α, RepL K F (xs.map f) (xs.map g)
  | [] => repL_nil.mpr rfl
  | x :: xs => repL_cons.mpr ⟨_, _, rfl, h x, RepL.of_map h xs⟩
theorem repL_ints {K : PySem.W.Frag} {F : Hp} (ns : List Int) : RepL K F (ns.map .int) (ns.map .int) := RepL.of_map (fun _ => rep_int.mpr rfl) ns
theorem repL_ints_of {K : PySem.W.Frag} {F : Hp} : ∀ {ns : List Int} {vs : List V}, RepL K F vs (ns.map .int) → vs = ns.map V.int
  | [], vs, h => repL_nil.mp h
  | n :: ns, vs, h => by
    obtain ⟨v, r, rfl, q, t⟩ := repL_cons.mp h
    rw [rep_int.mp q, repL_ints_of t]
    rfl
theorem repL_strs_of {K : PySem.W.Frag} {F : Hp} : ∀ {ns : List Str} {vs : List V}, RepL K F vs (ns.map .str) → vs = ns.map V.str
  | [], vs, h => repL_nil.mp h
  | n :: ns, vs, h => by
    obtain ⟨v, r, rfl, q, t⟩ := repL_cons.mp h
    rw [rep_str.mp q, repL_strs_of t]
    rfl
/-- what stands at an owned address -/
def OwnRep (K : PySem.W.Frag) (F H : Hp) (a : Addr) : PyData → Prop
  | .list ds => ∃ vs, H a = some (.lst vs) ∧ RepL K F vs ds
  | .dict kvs => ∃ kv, H a = some (.dK kv) ∧ RepD K F kv kvs
  | _ => False
theorem OwnRep.up {K : PySem.W.Frag} {F F' H H' : Hp} {a : Addr} {x : PyData} (h : OwnRep K F H a x) (s : Same F F') (k : ∀ o, H a = some o → H' a = some o) : OwnRep K F' H' a x := by
  cases x <;> try exact h
  · obtain ⟨vs, e, r⟩ := h
    exact ⟨vs, k _ e, RepL.up s _ _ r⟩
  · obtain ⟨vs, e, r⟩ := h
    exact ⟨vs, k _ e, RepD.up s _ _ r⟩
theorem OwnRep.some {K : PySem.W.Frag} {F H : Hp} {a : Addr} {x : PyData} (h : OwnRep K F H a x) : ∃ o, H a = Option.some o := by
  cases x <;> try exact h.elim
  · obtain ⟨vs, e, r⟩ := h
    exact ⟨_, e⟩
  · obtain ⟨vs, e, r⟩ := h
    exact ⟨_, e⟩
/-- frozen: what was owned is data -/
theorem OwnRep.freeze {K : PySem.W.Frag} {F H : Hp} {a : Addr} {x : PyData} (h : OwnRep K F H a x) (n : F a = none) : ∃ o, H a = Option.some o ∧ Rep K (upd F a o) (.ref a) x := by
  have s : ∀ o, Same F (upd F a o) := fun o b u e => by
    rw [upd_ne (ne_of_none e n)]
    exact e
  cases x <;> try exact h.elim
  · obtain ⟨vs, e, r⟩ := h
    exact ⟨_, e, rep_list.mpr ⟨a, vs, rfl, upd_same, RepL.up (s _) _ _ r⟩⟩
  · obtain ⟨vs, e, r⟩ := h
    exact ⟨_, e, rep_dict.mpr ⟨a, vs, rfl, upd_same, RepD.up (s _) _ _ r⟩⟩
/-! ### the source -/
abbrev Loc := Option (Addr × Addr)
def SrcAt (l : Loc) (a : Addr) : Prop := ∃ p, l = some p ∧ (a = p.1 ∨ a = p.2)
def srcDict (c : Addr) (s : Src) : HO := .dK [(.inr "cells", .ref c), (.inr "left", .int s.left), (.inr "mixed", .int s.mixed), (.inr "turn", .int s.turn)]
def SrcRep (F H : Hp) : Loc → G → Prop
  | none, none => True
  | some (d, c), some s => d ≠ c ∧ H d = some (srcDict c s) ∧ H c = some (.lst (s.cells.map .int)) ∧ F d = none ∧ F c = none
  | _, _ => False
/-! ### the state -/
/-- what is fixed in a def's body: the written part, the data and the heap at its entry, what is wished of an exception, how one is borne -/
structure DCx where
  K : PySem.W.Frag
  F0 : Hp
  H0 : Hp
  l0 : Loc
  W : (Value → Option Addr → L2.St → Hp → Prop)
  XR : Str → PyData → Value → Option Addr → Hp → Hp → Prop
def OwnAt (σ : L2.St) (env : Env') (a : Addr) : Prop := ∃ (i : Nat) (x : PyData), env[i]? = some (Slot.own x) ∧ σ[i]? = some (some (V.ref a))
structure Rel (C : DCx) (σ : L2.St) (F H : Hp) (l : Loc) (env : Env') (g : G) : Prop where
  sub : Same F H
  len : σ.length = env.length
  dat : ∀ (i : Nat) (x : PyData), env[i]? = some (Slot.d x) → ∃ v, σ[i]? = some (some v) ∧ Rep C.K F v x
  own : ∀ (i : Nat) (x : PyData), env[i]? = some (Slot.own x) → ∃ a, σ[i]? = some (some (V.ref a)) ∧ OwnRep C.K F H a x ∧ F a = none ∧ C.H0 a = none ∧ ¬ SrcAt l a
  inj : ∀ (i j : Nat) (x y : PyData) (a : Addr), env[i]? = some (Slot.own x) → env[j]? = some (Slot.own y) → σ[i]? = some (some (V.ref a)) → σ[j]? = some (some (V.ref a)) → i = j
  iscr : ∀ (i : Nat) (ns : List Int), env[i]? = some (Slot.scr ns) → ∃ a, σ[i]? = some (some (V.ref a)) ∧ SqL C.K F a (ns.map V.int)
  isrc : ∀ (i : Nat) (b : Bool), env[i]? = some (Slot.src b) → ∃ d c, l = some (d, c) ∧ σ[i]? = some (some (V.ref (if b then c else d)))
  src : SrcRep F H l g
  old : ∀ a o, C.H0 a = some o → ¬ SrcAt C.l0 a → H a = some o
  oldd : ∀ a, C.H0 a ≠ none → H a ≠ none
  f0 : Same C.F0 F
  fo : ∀ a, F a ≠ none → C.F0 a ≠ none ∨ C.H0 a = none
  lo : ∀ a, SrcAt l a → SrcAt C.l0 a ∨ C.H0 a = none
  l0 : ∀ p, C.l0 = some p → l = some p
/-- from one state to a later one; O, O': the addresses that slots own -/
structure ExtO (O : Addr → Prop) (F H : Hp) (l : Loc) (F' H' : Hp) (l' : Loc) (O' : Addr → Prop) : Prop where
  fs : Same F F'
  hd : ∀ a, H a ≠ none → H' a ≠ none
  hk : ∀ a o, H a = some o → ¬ O a → ¬ SrcAt l a → H' a = some o
  gr : ∀ a, F' a ≠ none → F a ≠ none ∨ H a = none ∨ O a
  ow : ∀ a, O' a → O a
  ls : ∀ p, l = some p → l' = some p
  ln : ∀ a, SrcAt l' a → SrcAt l a ∨ H a = none
/-- within an expression -/
abbrev Ext (σ : L2.St) (F H : Hp) (l : Loc) (env : Env') (F' H' : Hp) (l' : Loc) (env' : Env') : Prop := ExtO (OwnAt σ env) F H l F' H' l' (OwnAt σ env')
theorem ExtO.refl {O : Addr → Prop} {F H : Hp} {l : Loc} : ExtO O F H l F H l O :=
  ⟨fun _ _ e => e, fun _ e => e, fun _ _ e _ _ => e, fun _ e => .inl e, fun _ e => e, fun _ e => e, fun _ e => .inl e⟩
theorem Ext.refl {σ : L2.St} {F H : Hp} {l : Loc} {env : Env'} : Ext σ F H l env F H l env := ExtO.refl
theorem SrcAt.up {l l' : Loc} (h : ∀ p, l = some p → l' = some p) {a : Addr} (s : SrcAt l a) : SrcAt l' a := let ⟨p, e, q⟩ := s; ⟨p, h p e, q⟩
theorem SrcRep.srcF {F H : Hp} {l : Loc} {g : G} (r : SrcRep F H l g) {a : Addr} (s : SrcAt l a) : F a = none := by
  obtain ⟨⟨d, c⟩, e, q⟩ := s
  subst e
  cases g with
  | none => exact r.elim
  | some s =>
    obtain ⟨_, _, _, h1, h2⟩ := r
    rcases q with q | q <;> rw [q] <;> assumption
theorem SrcRep.srcH {F H : Hp} {l : Loc} {g : G} (r : SrcRep F H l g) {a : Addr} (s : SrcAt l a) : ∃ o, H a = some o := by
  obtain ⟨⟨d, c⟩, e, q⟩ := s
  subst e
  cases g with
  | none => exact r.elim
  | some s =>
    obtain ⟨_, h1, h2, _, _⟩ := r
    rcases q with q | q <;> rw [q] <;> exact ⟨_, by assumption⟩
theorem Rel.ownF {C : DCx} {σ : L2.St} {F H : Hp} {l : Loc} {env : Env'} {g : G} (r : Rel C σ F H l env g) {a : Addr} (s : OwnAt σ env a) : F a = none ∧ C.H0 a = none ∧ ¬ SrcAt l a ∧ ∃ o, H a = some o := by
  obtain ⟨i, x, h1, h2⟩ := s
  obtain ⟨b, e, o, f, h, n⟩ := r.own i x h1
  rw [h2] at e
  cases e
  exact ⟨f, h, n, o.some⟩
theorem none_of_none {H H' : Hp} (hd : ∀ a, H a ≠ none → H' a ≠ none) {a : Addr} (h : H' a = none) : H a = none :=
  Classical.byContradiction fun z => hd a z h
theorem ExtO.trans {O O1 O2 : Addr → Prop} {F H F1 H1 F2 H2 : Hp} {l l1 l2 : Loc} (a : ExtO O F H l F1 H1 l1 O1) (b : ExtO O1 F1 H1 l1 F2 H2 l2 O2) : ExtO O F H l F2 H2 l2 O2 where
  fs := a.fs.trans b.fs
  hd := fun x h => b.hd x (a.hd x h)
  hk := fun x o h n1 n2 => b.hk x o (a.hk x o h n1 n2) (fun z => n1 (a.ow x z)) fun z => (a.ln x z).elim n2 fun z => by rw [h] at z; cases z
  gr := fun x h => by
    rcases b.gr x h with h1 | h1 | h1
    · exact a.gr x h1
    · exact .inr (.inl (none_of_none a.hd h1))
    · exact .inr (.inr (a.ow x h1))
  ow := fun x h => a.ow x (b.ow x h)
  ls := fun p h => b.ls p (a.ls p h)
  ln := fun x h => by
    rcases b.ln x h with h1 | h1
    · exact a.ln x h1
    · exact .inr (none_of_none a.hd h1)
theorem ExtO.conv {O O' P P' : Addr → Prop} {F H F1 H1 : Hp} {l l1 : Loc} (a : ExtO O F H l F1 H1 l1 O') (h : ∀ x, O x → P x) (h' : ∀ x, P' x → P x) : ExtO P F H l F1 H1 l1 P' :=
  ⟨a.fs, a.hd, fun x o e n1 n2 => a.hk x o e (fun z => n1 (h x z)) n2, fun x e => (a.gr x e).elim .inl fun z => .inr (z.elim .inl fun z => .inr (h x z)), h', a.ls, a.ln⟩
theorem Ext.trans {C : DCx} {σ : L2.St} {F H F1 H1 F2 H2 : Hp} {l l1 l2 : Loc} {env env1 env2 : Env'} (a : Ext σ F H l env F1 H1 l1 env1) (b : Ext σ F1 H1 l1 env1 F2 H2 l2 env2) : Ext σ F H l env F2 H2 l2 env2 := ExtO.trans a b
/-- what an expression's value is -/
def RepEV (C : DCx) (σ : L2.St) (F H : Hp) (l : Loc) (env : Env') (v : V) : EV → Prop
  | .d x => Rep C.K F v x
  | .fr x => ∃ a, v = V.ref a ∧ OwnRep C.K F H a x ∧ F a = none ∧ C.H0 a = none ∧ ¬ SrcAt l a ∧ ¬ OwnAt σ env a
  | .bo i => σ[i]? = some (some v)
  | .src b => ∃ d c, l = some (d, c) ∧ v = V.ref (if b then c else d)
  | .scr ns => ∃ a, v = V.ref a ∧ SqL C.K F a (ns.map V.int)
theorem RepEV.up {C : DCx} {σ : L2.St} {F H F' H' : Hp} {l l' : Loc} {env env' : Env'} {v : V} {ev : EV} (h : RepEV C σ F H l env v ev) (x : Ext σ F H l env F' H' l' env') : RepEV C σ F' H' l' env' v ev := by
  cases ev with
  | d y => exact Rep.up x.fs _ _ h
  | fr y =>
    obtain ⟨a, e, o, f, h0, ns, no⟩ := h
    obtain ⟨u, hu⟩ := o.some
    refine ⟨a, e, o.up x.fs fun u q => x.hk a u q no ns, ?_, h0, fun z => ?_, fun z => no (x.ow a z)⟩
    · refine Classical.byContradiction fun z => ?_
      rcases x.gr a z with q | q | q
      · exact q f
      · rw [hu] at q; cases q
      · exact no q
    · rcases x.ln a z with q | q
      · exact ns q
      · rw [hu] at q; cases q
  | bo i => exact h
  | src b =>
    obtain ⟨d, c, e, q⟩ := h
    exact ⟨d, c, x.ls _ e, q⟩
  | scr ns =>
    obtain ⟨a, e, q⟩ := h
    exact ⟨a, e, x.fs.seq q⟩
/-- the data that an expression's value is, as the slots stand -/
def look (env : Env') : EV → Option PyData
  | .d x => some x
  | .fr x => some x
  | .bo i => match env[i]? with
    | some (.own x) => some x
    | some (.d x) => some x
    | _ => none
  | .src _ => none
  | .scr _ => none
/-- data at a value, for reading: in the frozen part, or owned -/
def Bor (K : PySem.W.Frag) (F H : Hp) (v : V) (x : PyData) : Prop := Rep K F v x ∨ ∃ a, v = V.ref a ∧ OwnRep K F H a x
theorem RepEV.look {C : DCx} {σ : L2.St} {F H : Hp} {l : Loc} {env : Env'} {g : G} {v : V} {ev : EV} {x : PyData} (h : RepEV C σ F H l env v ev) (r : Rel C σ F H l env g) (e : look env ev = some x) : Bor C.K F H v x := by
  cases ev with
  | d y => cases e; exact .inl h
  | fr y =>
    cases e
    obtain ⟨a, e, o, _⟩ := h
    exact .inr ⟨a, e, o⟩
  | bo i =>
    have h : σ[i]? = some (some v) := h
    replace e : (match env[i]? with | some (Slot.own x) => some x | some (Slot.d x) => some x | _ => none) = some x := e
    split at e
    · rename_i y q
      cases e
      obtain ⟨a, q1, o, _⟩ := r.own i _ q
      rw [h] at q1
      cases q1
      exact .inr ⟨a, rfl, o⟩
    · rename_i y q
      cases e
      obtain ⟨u, q1, o⟩ := r.dat i _ q
      rw [h] at q1
      cases q1
      exact .inl o
    · cases e
  | src b => cases e
  | scr ns => cases e
/-! ### judgements -/
/-- a fresh one was not there ahead -/
def FreshAt (H : Hp) (v : V) : EV → Prop
  | .fr _ => ∀ a, v = V.ref a → H a = none
  | _ => True
/-- what is wanted behind an expression -/
def KE (C : DCx) (σ : L2.St) (F H : Hp) (l : Loc) (env : Env') (Q : VK) : EV → Env' → G → Prop := fun ev env' g' =>
  ∀ v F' H' l', Rel C σ F' H' l' env' g' → Ext σ F H l env F' H' l' env' → RepEV C σ F' H' l' env' v ev → FreshAt H v ev → Q v H'
def KX (C : DCx) (σ : L2.St) : Str → PyData → Env' → G → Prop := fun c x env' g' =>
  ∀ F' H' l' cls d, Rel C σ F' H' l' env' g' → C.XR c x cls d F' H' → C.W cls d σ H'
theorem FreshAt.dn {H H1 : Hp} {v : V} {ev : EV} (h : FreshAt H1 v ev) (hd : ∀ a, H a ≠ none → H1 a ≠ none) : FreshAt H v ev := by
  cases ev with
  | fr x => exact fun a e => none_of_none hd (h a e)
  | _ => trivial
theorem KE.up {C : DCx} {σ : L2.St} {F H F1 H1 : Hp} {l l1 : Loc} {env env1 : Env'} {Q : VK} {ev : EV} {env' : Env'} {g' : G} (h : KE C σ F H l env Q ev env' g') (x : Ext σ F H l env F1 H1 l1 env1) : KE C σ F1 H1 l1 env1 Q ev env' g' :=
  fun v F' H' l' r y p f => h v F' H' l' r (x.trans (C := C) y) p (f.dn x.hd)
def SimE (C : DCx) (t : TE) (m : M EV) : Prop := ∀ (σ : L2.St) (F H : Hp) (l : Loc) (env : Env') (g : G) (Q : VK), Rel C σ F H l env g → Wp (m env g) (KE C σ F H l env Q) (KX C σ) → t σ H Q
/-- an expression -/
structure DE (X : Cx) (C : DCx) (e : Expr) (m : M EV) : Prop where
  run : C.K = X.K → ∃ t, PE X e t ∧ SimE C t m
/-- frozen data -/
def KD (C : DCx) (σ : L2.St) (F H : Hp) (l : Loc) (env : Env') (Q : VK) : PyData → Env' → G → Prop := fun x env' g' =>
  ∀ v F' H' l', Rel C σ F' H' l' env' g' → Ext σ F H l env F' H' l' env' → Rep C.K F' v x → Q v H'
def SimD (C : DCx) (t : TE) (m : M PyData) : Prop := ∀ (σ : L2.St) (F H : Hp) (l : Loc) (env : Env') (g : G) (Q : VK), Rel C σ F H l env g → Wp (m env g) (KD C σ F H l env Q) (KX C σ) → t σ H Q
structure DD (X : Cx) (C : DCx) (e : Expr) (m : M PyData) : Prop where
  run : C.K = X.K → ∃ t, PE X e t ∧ SimD C t m
/-- a test -/
def KT (C : DCx) (σ : L2.St) (F H : Hp) (l : Loc) (env : Env') (Q : Bool → Hp → Prop) : Bool → Env' → G → Prop := fun b env' g' =>
  ∀ F' H' l', Rel C σ F' H' l' env' g' → Ext σ F H l env F' H' l' env' → Q b H'
def SimT (C : DCx) (t : TT) (m : M Bool) : Prop := ∀ (σ : L2.St) (F H : Hp) (l : Loc) (env : Env') (g : G) (Q : Bool → Hp → Prop), Rel C σ F H l env g → Wp (m env g) (KT C σ F H l env Q) (KX C σ) → t σ H Q
structure DT (X : Cx) (C : DCx) (e : Expr) (m : M Bool) : Prop where
  run : C.K = X.K → ∃ t, PT X e t ∧ SimT C t m
structure DW (X : Cx) (C : DCx) (e : Expr) (m : M Bool) : Prop where
  run : C.K = X.K → ∃ t, PW X e t ∧ SimT C t m
/-- a list of arguments, as they come -/
def Fresh2 (H : Hp) (vs : List V) (evs : List EV) : Prop := Paired (fun v ev => FreshAt H v ev) vs evs
def KA (C : DCx) (σ : L2.St) (F H : Hp) (l : Loc) (env : Env') (Q : List V → Hp → Prop) : List EV → Env' → G → Prop := fun evs env' g' =>
  ∀ vs F' H' l', Rel C σ F' H' l' env' g' → Ext σ F H l env F' H' l' env' → Paired (fun v ev => RepEV C σ F' H' l' env' v ev ∧ FreshAt H v ev) vs evs → Q vs H'
def SimA (C : DCx) (t : TA) (m : M (List EV)) : Prop := ∀ (σ : L2.St) (F H : Hp) (l : Loc) (env : Env') (g : G) (Q : List V → Hp → Prop), Rel C σ F H l env g → Wp (m env g) (KA C σ F H l env Q) (KX C σ) → t σ H Q
structure DA (X : Cx) (C : DCx) (es : List Expr) (m : M (List EV)) : Prop where
  run : C.K = X.K → ∃ t, PA X es t ∧ SimA C t m
theorem Paired.imp {α β : Type} {P P' : α → β → Prop} (h : ∀ a b, P a b → P' a b) : ∀ {xs : List α} {ys : List β}, Paired P xs ys → Paired P' xs ys
  | _, _, .nil => .nil
  | _, _, .cons r t => .cons (h _ _ r) (Paired.imp h t)
end DL
namespace DL
open PySem L2
/-! ### results of an operation on values: new objects come, nothing else changes -/
inductive RV where
  | d (x : PyData)
  | fr (x : PyData)
def RV.ev : RV → EV
  | .d x => .d x
  | .fr x => .fr x
structure New (K : PySem.W.Frag) (F H F' H' : Hp) (v : V) (r : RV) : Prop where
  fs : Same F F'
  hs : Same H H'
  sub : Same F' H'
  gr : ∀ a, F' a ≠ none → F a ≠ none ∨ H a = none
  rep : match r with
    | .d x => Rep K F' v x
    | .fr x => ∃ a, v = V.ref a ∧ H a = none ∧ F' a = none ∧ OwnRep K F' H' a x
def ResK (K : PySem.W.Frag) (F H : Hp) (Q : VK) (r : RV) : Prop := ∀ v F' H', New K F H F' H' v r → Q v H'
theorem Same.upd {H : Hp} {p : Addr} {o : HO} (n : H p = none) : Same H (upd H p o) := fun b u e => by
  rw [upd_ne (ne_of_none e n)]
  exact e
theorem none_sub {F H : Hp} (s : Same F H) {p : Addr} (n : H p = none) : F p = none := s.free n
theorem ResK.val {K : PySem.W.Frag} {F H : Hp} {Q : VK} {x : PyData} {v : V} (s : Same F H) (h : ResK K F H Q (.d x)) (r : Rep K F v x) : Q v H :=
  h v F H ⟨.refl _, .refl _, s, fun _ e => .inl e, r⟩
theorem ResK.tup {K : PySem.W.Frag} {F H : Hp} {Q : VK} {ds : List PyData} {vs : List V} {p : Addr} (s : Same F H) (h : ResK K F H Q (.d (.tuple ds))) (n : H p = none) (r : RepL K F vs ds) : Q (.ref p) (upd H p (.tup vs)) := by
  have nf := none_sub s n
  refine h _ (upd F p (.tup vs)) _ ⟨Same.upd nf, Same.upd n, fun b o e => ?_, fun a e => ?_, ?_⟩
  · by_cases hb : b = p
    · subst hb; rw [upd_same] at e ⊢; exact e
    · rw [upd_ne hb] at e ⊢; exact s _ _ e
  · by_cases hb : a = p
    · subst hb; exact .inr n
    · rw [upd_ne hb] at e; exact .inl e
  · exact rep_tup.mpr ⟨p, vs, rfl, SqT.of upd_same, RepL.up (Same.upd nf) _ _ r⟩
theorem ResK.lst {K : PySem.W.Frag} {F H : Hp} {Q : VK} {ds : List PyData} {vs : List V} {p : Addr} (s : Same F H) (h : ResK K F H Q (.fr (.list ds))) (n : H p = none) (r : RepL K F vs ds) : Q (.ref p) (upd H p (.lst vs)) :=
  h _ F _ ⟨.refl _, Same.upd n, s.trans (Same.upd n), fun _ e => .inl e, p, rfl, n, none_sub s n, vs, upd_same, r⟩
theorem ResK.dict {K : PySem.W.Frag} {F H : Hp} {Q : VK} {ds : List (PyData × PyData)} {vs : List (Key × V)} {p : Addr} (s : Same F H) (h : ResK K F H Q (.fr (.dict ds))) (n : H p = none) (r : RepD K F vs ds) : Q (.ref p) (upd H p (.dK vs)) :=
  h _ F _ ⟨.refl _, Same.upd n, s.trans (Same.upd n), fun _ e => .inl e, p, rfl, n, none_sub s n, vs, upd_same, r⟩
theorem Rel.new {C : DCx} {σ : L2.St} {F H F' H' : Hp} {l : Loc} {env : Env'} {g : G} {v : V} {r : RV} (R : Rel C σ F H l env g) (n : New C.K F H F' H' v r) :
    Rel C σ F' H' l env g ∧ Ext σ F H l env F' H' l env ∧ RepEV C σ F' H' l env v r.ev := by
  have nf : ∀ a, (∃ o, H a = some o) → F a = none → F' a = none := fun a ⟨o, ho⟩ hf => Classical.byContradiction fun z => by
    rcases n.gr a z with q | q
    · exact q hf
    · rw [ho] at q; cases q
  have srcs : SrcRep F' H' l g := by
    have q := R.src
    cases l with
    | none => cases g with
      | none => trivial
      | some s => exact q.elim
    | some p => cases g with
      | none => exact q.elim
      | some s =>
        obtain ⟨h1, h2, h3, h4, h5⟩ := q
        exact ⟨h1, n.hs _ _ h2, n.hs _ _ h3, nf _ ⟨_, h2⟩ h4, nf _ ⟨_, h3⟩ h5⟩
  refine ⟨⟨n.sub, R.len, fun i x e => ?_, fun i x e => ?_, R.inj, fun i ns e => ?_, R.isrc, srcs, fun a o e ns => n.hs _ _ (R.old a o e ns), fun a e => ?_, R.f0.trans n.fs, fun a e => ?_, R.lo, R.l0⟩,
    ⟨n.fs, fun a e => ?_, fun a o e _ _ => n.hs _ _ e, fun a e => (n.gr a e).elim .inl fun z => .inr (.inl z), fun _ e => e, fun _ e => e, fun _ e => .inl e⟩, ?_⟩
  · obtain ⟨u, h1, h2⟩ := R.dat i x e
    exact ⟨u, h1, Rep.up n.fs _ _ h2⟩
  · obtain ⟨a, h1, h2, h3, h4, h5⟩ := R.own i x e
    exact ⟨a, h1, h2.up n.fs fun o q => n.hs _ _ q, nf _ h2.some h3, h4, h5⟩
  · obtain ⟨a, h1, h2⟩ := R.iscr i ns e
    exact ⟨a, h1, n.fs.seq h2⟩
  · have z := R.oldd a e
    cases q : H a with
    | none => exact absurd q z
    | some o => rw [n.hs _ _ q]; exact nofun
  · rcases n.gr a e with q | q
    · exact R.fo a q
    · exact .inr (Classical.byContradiction fun z => R.oldd a z q)
  · cases q : H a with
    | none => exact absurd q e
    | some o => rw [n.hs _ _ q]; exact nofun
  · have q := n.rep
    cases r with
    | d x => exact q
    | fr x =>
      obtain ⟨a, h1, h2, h3, h4⟩ := q
      refine ⟨a, h1, h4, h3, Classical.byContradiction fun z => R.oldd a z h2, fun z => ?_, fun z => ?_⟩
      · obtain ⟨o, ho⟩ := R.src.srcH z
        rw [h2] at ho; cases ho
      · obtain ⟨_, _, _, o, ho⟩ := R.ownF z
        rw [h2] at ho; cases ho
theorem KE.res {C : DCx} {σ : L2.St} {F H : Hp} {l : Loc} {env : Env'} {g : G} {Q : VK} {r : RV} (R : Rel C σ F H l env g) (h : KE C σ F H l env Q r.ev env g) : ResK C.K F H Q r := fun v F' H' n =>
  let ⟨a, b, c⟩ := R.new n
  h v F' H' l a b c (by
    cases r with
    | d x => trivial
    | fr x =>
      obtain ⟨p, h1, h2, _⟩ := n.rep
      intro q e
      rw [h1] at e
      cases e
      exact h2)
/-! ### operations by values -/
def OpD (X : Cx) (f : Value → Value → Sem Value) (g : PyData → PyData → Option RV) : Prop :=
  ∃ r, OpR X f r ∧ ∀ (F H : Hp) (v w : V) (x y : PyData) (Q : VK) (ev : RV), Same F H → Bor X.K F H v x → Bor X.K F H w y → g x y = some ev → ResK X.K F H Q ev → r v w H Q
def CallD (X : Cx) (f : Value) (g : List PyData → Option RV) : Prop :=
  ∃ r, CallR X f r ∧ ∀ (F H : Hp) (vs : List V) (xs : List PyData) (Q : VK) (ev : RV), Same F H → Paired (Bor X.K F H) vs xs → g xs = some ev → ResK X.K F H Q ev → r vs H Q
def UnD (X : Cx) (f : Value → Sem Value) (g : PyData → Option RV) : Prop :=
  ∃ r, UnR X f r ∧ ∀ (F H : Hp) (v : V) (x : PyData) (Q : VK) (ev : RV), Same F H → Bor X.K F H v x → g x = some ev → ResK X.K F H Q ev → r v H Q
/-- the items of a list or tuple, for reading -/
theorem Bor.seq {K : PySem.W.Frag} {F H : Hp} {v : V} {ds : List PyData} (s : Same F H) (h : Bor K F H v (.list ds)) : ∃ a vs, v = V.ref a ∧ H a = some (.lst vs) ∧ RepL K F vs ds := by
  rcases h with h | ⟨a, e, o⟩
  · obtain ⟨a, vs, e, q, r⟩ := rep_list.mp h
    exact ⟨a, vs, e, s _ _ q, r⟩
  · obtain ⟨vs, h1, r⟩ := o
    exact ⟨a, vs, e, h1, r⟩
theorem Bor.tup {K : PySem.W.Frag} {F H : Hp} {v : V} {ds : List PyData} (s : Same F H) (h : Bor K F H v (.tuple ds)) : ∃ a vs, v = V.ref a ∧ SqT K H a vs ∧ RepL K F vs ds := by
  rcases h with h | ⟨a, e, o⟩
  · obtain ⟨a, vs, e, q, r⟩ := rep_tup.mp h
    exact ⟨a, vs, e, SqT.up s q, r⟩
  · exact o.elim
theorem Bor.int {K : PySem.W.Frag} {F H : Hp} {v : V} {i : Int} (h : Bor K F H v (.int i)) : v = .int i := by
  rcases h with h | ⟨a, e, o⟩
  · exact rep_int.mp h
  · exact o.elim
theorem Bor.bool {K : PySem.W.Frag} {F H : Hp} {v : V} {i : Bool} (h : Bor K F H v (.bool i)) : v = .bl i := by
  rcases h with h | ⟨a, e, o⟩
  · exact rep_bool.mp h
  · exact o.elim
theorem Bor.str {K : PySem.W.Frag} {F H : Hp} {v : V} {i : Str} (h : Bor K F H v (.str i)) : v = .str i := by
  rcases h with h | ⟨a, e, o⟩
  · exact rep_str.mp h
  · exact o.elim
theorem Bor.none {K : PySem.W.Frag} {F H : Hp} {v : V} (h : Bor K F H v .none) : v = .non := by
  rcases h with h | ⟨a, e, o⟩
  · exact rep_none.mp h
  · exact o.elim
end DL
namespace DL
open PySem L2
/-! ### data as the library reads it -/
section
variable {X : Cx} {pins : List (Addr × Obj)} {σ : L2.St} {H F : Hp} {s : Shared}
theorem readsAll_keys {h : Heap} : ∀ {kvs : List (Key × Value)} {es : List DictEntry} {ps : List (PyData × PyData)} {kv : List (Key × V)} {P : Program} {w : World} {K : PySem.W.Frag}, Pairs (mixKind P w) es kvs → KV kv kvs → RepD K F kv ps →
    ∃ as, ReadsAll h (es.map (·.key)) (ps.map (·.1)) as := by
  intro kvs es ps kv P w K hp
  induction hp generalizing kv ps with
  | nil =>
    intro hk hr
    cases hk
    cases ps with
    | nil => exact ⟨_, .nil⟩
    | cons p ps =>
      simp only [RepD] at hr
      obtain ⟨_, _, _, e, _⟩ := hr
      cases e
  | @cons e kv' es kvs h1 h2 t ih =>
    intro hk hr
    cases hk with
    | @cons p _ r _ hk1 hk2 =>
      cases ps with
      | nil =>
        simp only [RepD] at hr
        cases hr
      | cons q ps =>
        simp only [RepD] at hr
        obtain ⟨k, v, r', e', r1, r2, r3⟩ := hr
        cases e'
        obtain ⟨as, ha⟩ := ih hk2 r3
        have hq : kv'.1 = k := hk1.1.symm
        have hz : keyIs kv'.1 e.key = true := h1
        rw [hq] at hz
        rcases keyIs_shape hz with ⟨i, t', rfl, ek⟩ | ⟨x, t', rfl, ek⟩
        · have z : q.1 = .int i := by
            obtain ⟨q1, q2⟩ := q
            cases q1 <;> simp_all [kV, rep_list, rep_tup, rep_dict]
          rw [List.map_cons, List.map_cons, ek, z]
          exact ⟨_, .cons (.int i t') ha⟩
        · have z : q.1 = .str x := by
            obtain ⟨q1, q2⟩ := q
            cases q1 <;> simp_all [kV, rep_list, rep_tup, rep_dict]
          rw [List.map_cons, List.map_cons, ek, z]
          exact ⟨_, .cons (.str x t') ha⟩
theorem pairs_vals {P : Program} {w : World} : ∀ {kvs : List (Key × Value)} {es : List DictEntry}, Pairs (mixKind P w) es kvs → es.map (·.val) = kvs.map (·.2)
  | _, _, .nil => rfl
  | _, _, .cons _ h t => by rw [List.map_cons, List.map_cons, h, pairs_vals t]
mutual
theorem Rep.reads (I : Inv X pins σ H s) (hs : Same F H) : ∀ (d : PyData) (v : V) (u : Value), Rep X.K F v d → RelV v u → ∃ as, Reads s.heap u d as
  | .none, _, _, h, r => by
    cases rep_none.mp h
    cases r
    exact ⟨_, Reads.none⟩
  | .bool b, _, _, h, r => by
    cases rep_bool.mp h
    cases r
    exact ⟨_, Reads.bool b⟩
  | .int i, _, _, h, r => by
    cases rep_int.mp h
    obtain ⟨t, rfl⟩ := r
    exact ⟨_, Reads.int i t⟩
  | .str x, _, _, h, r => by
    cases rep_str.mp h
    obtain ⟨t, rfl⟩ := r
    exact ⟨_, Reads.str x t⟩
  | .list ds, _, _, h, r => by
    obtain ⟨a, vs, rfl, q, t⟩ := rep_list.mp h
    cases r
    obtain ⟨its, rv, ⟨o, n, ho, hc, _, hd⟩, _⟩ := I.list (SqL.of (hs _ _ q))
    obtain ⟨as, hr⟩ := RepL.reads I hs ds vs its t rv
    exact ⟨_, Reads.list ho hc hd hr⟩
  | .tuple ds, _, _, h, r => by
    obtain ⟨a, vs, rfl, q, t⟩ := rep_tup.mp h
    cases r
    obtain ⟨its, rv, ⟨o, ho, hc, n, hd⟩, _⟩ := I.tuple (SqT.up hs q)
    obtain ⟨as, hr⟩ := RepL.reads I hs ds vs its t rv
    exact ⟨_, Reads.tuple ho hc hd hr⟩
  | .dict kvs, _, _, h, r => by
    obtain ⟨a, kv, rfl, q, t⟩ := rep_dict.mp h
    cases r
    obtain ⟨_, _, vs, hk, o, es, ep, ho, hx, hd, _, hp, _⟩ := I.hok a _ (hs _ _ q)
    obtain ⟨as, h1⟩ := readsAll_keys (h := s.heap) hp hk t
    obtain ⟨bs, h2⟩ := RepD.reads I hs kvs kv vs t hk
    refine ⟨_, Reads.dict ho hx.1 hd h1 (bs := bs) ?_⟩
    rw [pairs_vals hp]
    exact h2
theorem RepL.reads (I : Inv X pins σ H s) (hs : Same F H) : ∀ (ds : List PyData) (vs : List V) (us : List Value), RepL X.K F vs ds → Vals vs us → ∃ as, ReadsAll s.heap us ds as
  | [], _, _, h, r => by
    cases repL_nil.mp h
    cases r
    exact ⟨_, .nil⟩
  | d :: ds, _, _, h, r => by
    obtain ⟨v, w, rfl, q, t⟩ := repL_cons.mp h
    cases r with
    | cons r1 r2 =>
      obtain ⟨as, h1⟩ := Rep.reads I hs d _ _ q r1
      obtain ⟨bs, h2⟩ := RepL.reads I hs ds _ _ t r2
      exact ⟨_, .cons h1 h2⟩
theorem RepD.reads (I : Inv X pins σ H s) (hs : Same F H) : ∀ (ps : List (PyData × PyData)) (kv : List (Key × V)) (us : List (Key × Value)), RepD X.K F kv ps → KV kv us → ∃ as, ReadsAll s.heap (us.map (·.2)) (ps.map (·.2)) as
  | [], kv, _, h, r => by
    simp only [RepD] at h
    subst h
    cases r
    exact ⟨_, .nil⟩
  | p :: ps, kv, _, h, r => by
    simp only [RepD] at h
    obtain ⟨k, v, w, rfl, q1, q2, t⟩ := h
    cases r with
    | cons r1 r2 =>
      obtain ⟨as, h1⟩ := Rep.reads I hs p.2 _ _ q2 r1.2
      obtain ⟨bs, h2⟩ := RepD.reads I hs ps _ _ t r2
      rw [List.map_cons, List.map_cons]
      exact ⟨_, .cons h1 h2⟩
end
theorem Bor.reads (I : Inv X pins σ H s) (hs : Same F H) {d : PyData} {v : V} {u : Value} (h : Bor X.K F H v d) (r : RelV v u) : ∃ as, Reads s.heap u d as := by
  rcases h with h | ⟨a, rfl, o⟩
  · exact Rep.reads I hs d v u h r
  · cases r
    cases d with
    | list ds =>
      obtain ⟨vs, q, t⟩ := o
      obtain ⟨its, rv, ⟨o, n, ho, hc, _, hd⟩, _⟩ := I.list (SqL.of q)
      obtain ⟨as, hr⟩ := RepL.reads I hs ds vs its t rv
      exact ⟨_, Reads.list ho hc hd hr⟩
    | dict kvs =>
      obtain ⟨kv, q, t⟩ := o
      obtain ⟨_, _, vs, hk, o, es, ep, ho, hx, hd, _, hp, _⟩ := I.hok a _ q
      obtain ⟨as, h1⟩ := readsAll_keys (h := s.heap) hp hk t
      obtain ⟨bs, h2⟩ := RepD.reads I hs kvs kv vs t hk
      refine ⟨_, Reads.dict ho hx.1 hd h1 (bs := bs) ?_⟩
      rw [pairs_vals hp]
      exact h2
    | _ => exact o.elim
end
/-! ### ==, !=, in of data -/
/-- lists of other lengths: the items are not looked at -/
def otherLen : PyData → PyData → Bool
  | .list xs, .list ys => xs.length != ys.length
  | _, _ => false
/-- texts, whatever their signs -/
def texts2 : PyData → PyData → Bool
  | .str _, .str _ => true
  | _, _ => false
def eqOk (x y : PyData) : Bool := (SeqAt.shaped x && SeqAt.shaped y) || otherLen x y || texts2 x y
def pyEq (x y : PyData) : Option RV := if eqOk x y then some (.d (.bool (PyData.eqv x y))) else none
def pyNe (x y : PyData) : Option RV := if eqOk x y then some (.d (.bool (!PyData.eqv x y))) else none
theorem if_some {c : Bool} {α : Type} {a b : α} (h : (if c = true then some a else none) = some b) : c = true ∧ a = b := by
  cases c with
  | true => exact ⟨rfl, Option.some.inj (by simpa using h)⟩
  | false => simp at h
def rEqB (K : PySem.W.Frag) (f : Bool → Bool) : R2 := fun x y H Q => ∃ F d e, Same F H ∧ Bor K F H x d ∧ Bor K F H y e ∧ eqOk d e = true ∧ Q (.bl (f (PyData.eqv d e))) H
section
variable {X : Cx}
theorem lists_of {pins : List (Addr × Obj)} {σ : L2.St} {F H : Hp} {s : Shared} {x y : V} {v u : Value} {d e : PyData} (I : Inv X pins σ H s) (hs : Same F H) (hd : Bor X.K F H x d) (he : Bor X.K F H y e) (rx : RelV x v) (ry : RelV y u) (h : otherLen d e = true) :
    ∃ (a b : Addr) (it jt : Array Value), v = .ref a ∧ u = .ref b ∧ s.heap.IsList a it ∧ s.heap.IsList b jt ∧ (it.size != jt.size) = true ∧ PyData.eqv d e = false := by
  cases d <;> cases e <;> first | (cases h; done) | skip
  rename_i xs ys
  have hne : xs.length ≠ ys.length := by simpa [otherLen] using h
  obtain ⟨a, vs, rfl, q, r⟩ := hd.seq hs
  obtain ⟨b, ws, rfl, q2, r2⟩ := he.seq hs
  cases rx
  cases ry
  obtain ⟨its, rv, p, _⟩ := I.list (SqL.of q)
  obtain ⟨jts, rw', p2, _⟩ := I.list (SqL.of q2)
  refine ⟨a, b, _, _, rfl, rfl, p.isList, p2.isList, ?_, SeqAt.eqvAll_other_length hne⟩
  have h1 := rv.length
  have h2 := rw'.length
  have h3 := r.length
  have h4 := r2.length
  simp only [List.size_toArray, bne_iff_ne, ne_eq]
  omega
theorem opd_eq (hu : X.A.units + 64 < cLine) : OpD X (compareOp .Eq) pyEq := by
  refine ⟨rEqB X.K id, ?_, ?_⟩
  · intro pins s σ H x y v u Q I rx ry h
    obtain ⟨F, d, e, hs, hd, he, ok, q⟩ := h
    unfold eqOk at ok
    rw [Bool.or_eq_true, Bool.or_eq_true, Bool.and_eq_true] at ok
    rcases ok with (⟨sd, se⟩ | ok) | ok
    · obtain ⟨as, r1⟩ := hd.reads I hs rx
      obtain ⟨bs, r2⟩ := he.reads I hs ry
      exact SeqAt.compareEq_shaped r1 r2 sd se hu ⟨.bl _, H, I, rfl, q⟩
    · obtain ⟨a, b, it, jt, rfl, rfl, p1, p2, hne, ev⟩ := lists_of I hs hd he rx ry ok
      rw [ev] at q
      exact SeqAt.RcAt.lists_lengths p1 p2 hne (by omega) X.prog X.w X.xe _ ⟨.bl _, H, I, rfl, q⟩
    · cases d <;> cases e <;> first | (cases ok; done) | skip
      rw [hd.str] at rx
      rw [he.str] at ry
      obtain ⟨t, rfl⟩ := rx
      obtain ⟨t', rfl⟩ := ry
      exact SeqAt.RcAt.str_str _ t _ t' X.prog X.w X.xe _ ⟨.bl _, H, I, rfl, q⟩
  · intro F H v w x y Q ev hs hx hy hg hq
    obtain ⟨h1, rfl⟩ := if_some hg
    exact ⟨F, x, y, hs, hx, hy, h1, hq.val hs (rep_bool.mpr rfl)⟩
theorem opd_ne (hu : X.A.units + 64 < cLine) : OpD X (compareOp .NotEq) pyNe := by
  refine ⟨rEqB X.K not, ?_, ?_⟩
  · intro pins s σ H x y v u Q I rx ry h
    obtain ⟨F, d, e, hs, hd, he, ok, q⟩ := h
    unfold eqOk at ok
    rw [Bool.or_eq_true, Bool.or_eq_true, Bool.and_eq_true] at ok
    rcases ok with (⟨sd, se⟩ | ok) | ok
    · obtain ⟨as, r1⟩ := hd.reads I hs rx
      obtain ⟨bs, r2⟩ := he.reads I hs ry
      exact SeqAt.compareNe_shaped r1 r2 sd se hu ⟨.bl _, H, I, rfl, q⟩
    · obtain ⟨a, b, it, jt, rfl, rfl, p1, p2, hne, ev⟩ := lists_of I hs hd he rx ry ok
      rw [ev] at q
      exact SeqAt.RcNeAt.lists_lengths p1 p2 hne (by omega) X.prog X.w X.xe _ ⟨.bl _, H, I, rfl, q⟩
    · cases d <;> cases e <;> first | (cases ok; done) | skip
      rw [hd.str] at rx
      rw [he.str] at ry
      obtain ⟨t, rfl⟩ := rx
      obtain ⟨t', rfl⟩ := ry
      exact SeqAt.RcNeAt.str_str _ t _ t' X.prog X.w X.xe _ ⟨.bl _, H, I, rfl, q⟩
  · intro F H v w x y Q ev hs hx hy hg hq
    obtain ⟨h1, rfl⟩ := if_some hg
    exact ⟨F, x, y, hs, hx, hy, h1, hq.val hs (rep_bool.mpr rfl)⟩
end
def rG (K : PySem.W.Frag) (g : PyData → PyData → Option RV) : R2 := fun x y H Q => ∃ F d e ev, Same F H ∧ Bor K F H x d ∧ Bor K F H y e ∧ g d e = some ev ∧ ResK K F H Q ev
theorem opd_of {X : Cx} {f : Value → Value → Sem Value} {g : PyData → PyData → Option RV} (h : OpR X f (rG X.K g)) : OpD X f g :=
  ⟨_, h, fun F _ _ _ x y _ ev hs hx hy hg hq => ⟨F, x, y, ev, hs, hx, hy, hg, hq⟩⟩
def rGu (K : PySem.W.Frag) (g : PyData → Option RV) : V → Hp → VK → Prop := fun x H Q => ∃ F d ev, Same F H ∧ Bor K F H x d ∧ g d = some ev ∧ ResK K F H Q ev
theorem und_of {X : Cx} {f : Value → Sem Value} {g : PyData → Option RV} (h : UnR X f (rGu X.K g)) : UnD X f g :=
  ⟨_, h, fun F _ _ x _ ev hs hx hg hq => ⟨F, x, ev, hs, hx, hg, hq⟩⟩
def rGc (K : PySem.W.Frag) (g : List PyData → Option RV) : List V → Hp → VK → Prop := fun xs H Q => ∃ F ds ev, Same F H ∧ Paired (Bor K F H) xs ds ∧ g ds = some ev ∧ ResK K F H Q ev
theorem calld_of {X : Cx} {f : Value} {g : List PyData → Option RV} (h : CallR X f (rGc X.K g)) : CallD X f g :=
  ⟨_, h, fun F _ _ xs _ ev hs hx hg hq => ⟨F, xs, ev, hs, hx, hg, hq⟩⟩
theorem roomIn {A : Around} {ds : List PyData} {d : PyData} (h : SeqAt.shaped d = true) (hu : A.units + 65 < cLine) : A.units + 1 + min (PyData.depthAll ds) d.depth < cLine := by
  have h1 := SeqAt.depth_of_shaped h
  have h2 : min (PyData.depthAll ds) d.depth ≤ d.depth := Nat.min_le_right _ _
  omega
/-- in, not in -/
def pyIn (neg : Bool) (x y : PyData) : Option RV := match y with
  | .list ds => if SeqAt.shaped x && SeqAt.shaped (.list ds) then some (.d (.bool (neg != ds.any fun z => PyData.eqv z x))) else none
  | .tuple ds => if SeqAt.shaped x && SeqAt.shaped (.tuple ds) then some (.d (.bool (neg != ds.any fun z => PyData.eqv z x))) else none
  | .str t => match x with
    | .str u => some (.d (.bool (neg != !(Builtin.Str.occurrences t u 0 t.length 1).isEmpty)))
    | _ => none
  | _ => none
section
variable {X : Cx}
theorem opd_in (hu : X.A.units + 65 < cLine) : OpD X (compareOp .In) (pyIn false) := by
  refine opd_of ?_
  intro pins s σ H x y v u Q I rx ry h
  obtain ⟨F, d, e, ev, hs, hd, he, hg, hq⟩ := h
  cases e with
  | list ds =>
    obtain ⟨as, r1⟩ := hd.reads I hs rx
    obtain ⟨bs, r2⟩ := he.reads I hs ry
    obtain ⟨h1, rfl⟩ := if_some hg
    rw [Bool.and_eq_true] at h1
    exact SeqAt.in_list_reads r2 r1 (SeqAt.canLay_of_shaped h1.2) (SeqAt.canLay_of_shaped h1.1) (roomIn h1.1 hu) ⟨.bl _, H, I, rfl, by simpa using hq.val hs (rep_bool.mpr rfl)⟩
  | tuple ds =>
    obtain ⟨as, r1⟩ := hd.reads I hs rx
    obtain ⟨bs, r2⟩ := he.reads I hs ry
    obtain ⟨h1, rfl⟩ := if_some hg
    rw [Bool.and_eq_true] at h1
    exact SeqAt.in_tuple_reads r2 r1 (SeqAt.canLay_of_shaped h1.2) (SeqAt.canLay_of_shaped h1.1) (roomIn h1.1 hu) ⟨.bl _, H, I, rfl, by simpa using hq.val hs (rep_bool.mpr rfl)⟩
  | str t =>
    cases d with
    | str z =>
      cases hg
      exact op_in_str pins s σ H x y v u Q I rx ry ⟨_, _, hd.str, he.str, by simpa using hq.val hs (rep_bool.mpr rfl)⟩
    | _ => cases hg
  | _ => cases hg
theorem opd_notin (hu : X.A.units + 65 < cLine) : OpD X (compareOp .NotIn) (pyIn true) := by
  refine opd_of ?_
  intro pins s σ H x y v u Q I rx ry h
  obtain ⟨F, d, e, ev, hs, hd, he, hg, hq⟩ := h
  cases e with
  | list ds =>
    obtain ⟨as, r1⟩ := hd.reads I hs rx
    obtain ⟨bs, r2⟩ := he.reads I hs ry
    obtain ⟨h1, rfl⟩ := if_some hg
    rw [Bool.and_eq_true] at h1
    exact SeqAt.notIn_list_reads r2 r1 (SeqAt.canLay_of_shaped h1.2) (SeqAt.canLay_of_shaped h1.1) (roomIn h1.1 hu) ⟨.bl _, H, I, rfl, by simpa using hq.val hs (rep_bool.mpr rfl)⟩
  | tuple ds =>
    obtain ⟨as, r1⟩ := hd.reads I hs rx
    obtain ⟨bs, r2⟩ := he.reads I hs ry
    obtain ⟨h1, rfl⟩ := if_some hg
    rw [Bool.and_eq_true] at h1
    exact SeqAt.notIn_tuple_reads r2 r1 (SeqAt.canLay_of_shaped h1.2) (SeqAt.canLay_of_shaped h1.1) (roomIn h1.1 hu) ⟨.bl _, H, I, rfl, by simpa using hq.val hs (rep_bool.mpr rfl)⟩
  | str t =>
    cases d with
    | str z =>
      cases hg
      exact op_notIn_str pins s σ H x y v u Q I rx ry ⟨_, _, hd.str, he.str, by simpa using hq.val hs (rep_bool.mpr rfl)⟩
    | _ => cases hg
  | _ => cases hg
/-- is, is not: with None, or of bools -/
def pyIs (neg : Bool) (x y : PyData) : Option RV := match y with
  | .none => match x with
    | .none => some (.d (.bool (!neg)))
    | _ => some (.d (.bool neg))
  | .bool b => match x with
    | .bool a => some (.d (.bool (neg != decide (a = b))))
    | _ => none
  | _ => none
def isNone : PyData → Bool
  | .none => true
  | _ => false
theorem Bor.isnone {K : PySem.W.Frag} {F H : Hp} {v : V} {x : PyData} (h : Bor K F H v x) : decide (v = .non) = isNone x := by
  cases x with
  | none => have e := h.none; subst e; rfl
  | bool b => have e := h.bool; subst e; rfl
  | int b => have e := h.int; subst e; rfl
  | str b => have e := h.str; subst e; rfl
  | list b =>
    rcases h with h | ⟨a, rfl, _⟩
    · obtain ⟨_, _, rfl, _⟩ := rep_list.mp h; rfl
    · rfl
  | tuple b =>
    rcases h with h | ⟨a, rfl, _⟩
    · obtain ⟨_, _, rfl, _⟩ := rep_tup.mp h; rfl
    · rfl
  | dict b =>
    rcases h with h | ⟨a, rfl, _⟩
    · obtain ⟨_, _, rfl, _⟩ := rep_dict.mp h; rfl
    · rfl
theorem opd_is : OpD X (compareOp .Is) (pyIs false) := by
  refine opd_of ?_
  intro pins s σ H x y v u Q I rx ry h
  obtain ⟨F, d, e, ev, hs, hd, he, hg, hq⟩ := h
  cases e with
  | none =>
    refine op_isN pins s σ H x y v u Q I rx ry ⟨he.none, ?_⟩
    rw [hd.isnone]
    cases d <;> (cases hg; exact hq.val hs (rep_bool.mpr rfl))
  | bool b =>
    cases d with
    | bool a =>
      cases hg
      exact op_isBl pins s σ H x y v u Q I rx ry ⟨a, b, hd.bool, he.bool, by simpa using hq.val hs (rep_bool.mpr rfl)⟩
    | _ => cases hg
  | _ => cases hg
theorem opd_isnot : OpD X (compareOp .IsNot) (pyIs true) := by
  refine opd_of ?_
  intro pins s σ H x y v u Q I rx ry h
  obtain ⟨F, d, e, ev, hs, hd, he, hg, hq⟩ := h
  cases e with
  | none =>
    refine op_notN pins s σ H x y v u Q I rx ry ⟨he.none, ?_⟩
    rw [hd.isnone]
    cases d <;> (cases hg; exact hq.val hs (rep_bool.mpr rfl))
  | bool b =>
    cases d with
    | bool a =>
      cases hg
      exact op_notBl pins s σ H x y v u Q I rx ry ⟨a, b, hd.bool, he.bool, by simpa using hq.val hs (rep_bool.mpr rfl)⟩
    | _ => cases hg
  | _ => cases hg
/-- <, <=, >, >= of ints -/
def pyCmpI (p : Int → Int → Bool) (x y : PyData) : Option RV := match x, y with
  | .int i, .int j => some (.d (.bool (p i j)))
  | _, _ => none
theorem opd_cmpI {f : Value → Value → Sem Value} {p : Int → Int → Bool} (h : OpR X f (rI0 fun i j => .bl (p i j))) : OpD X f (pyCmpI p) := by
  refine opd_of ?_
  intro pins s σ H x y v u Q I rx ry hh
  obtain ⟨F, d, e, ev, hs, hd, he, hg, hq⟩ := hh
  cases d <;> cases e <;> first | (cases hg; done) | skip
  rename_i i j
  cases hg
  exact h pins s σ H x y v u Q I rx ry ⟨i, j, hd.int, he.int, hq.val hs (rep_bool.mpr rfl)⟩
theorem opd_lt : OpD X (compareOp .Lt) (pyCmpI fun i j => decide (i < j)) := opd_cmpI op_lt
theorem opd_le : OpD X (compareOp .LtE) (pyCmpI fun i j => decide (i ≤ j)) := opd_cmpI op_le
theorem opd_gt : OpD X (compareOp .Gt) (pyCmpI fun i j => decide (j < i)) := opd_cmpI op_gt
theorem opd_ge : OpD X (compareOp .GtE) (pyCmpI fun i j => decide (j ≤ i)) := opd_cmpI op_ge
/-- + -/
def pyAdd (x y : PyData) : Option RV := match x, y with
  | .int i, .int j => some (.d (.int (i + j)))
  | .list a, .list b => if decide (a.length + b.length ≤ sizeLine) then some (.fr (.list (a ++ b))) else none
  | .tuple a, .tuple b => if decide (a.length + b.length ≤ sizeLine) then some (.d (.tuple (a ++ b))) else none
  | .str a, .str b => if decide (a.length + b.length ≤ sizeLine) then some (.d (.str (a ++ b))) else none
  | _, _ => none
theorem opd_add : OpD X (binaryOp .Add) pyAdd := by
  refine opd_of ?_
  intro pins s σ H x y v u Q I rx ry h
  obtain ⟨F, d, e, ev, hs, hd, he, hg, hq⟩ := h
  cases d <;> cases e <;> first | (cases hg; done) | skip
  · cases hg
    exact op_add pins s σ H x y v u Q I rx ry ⟨_, _, hd.int, he.int, hq.val hs (rep_int.mpr rfl)⟩
  · obtain ⟨h1, rfl⟩ := if_some hg
    exact op_add_str pins s σ H x y v u Q I rx ry ⟨_, _, hd.str, he.str, of_decide_eq_true h1, hq.val hs (rep_str.mpr rfl)⟩
  · obtain ⟨h1, rfl⟩ := if_some hg
    obtain ⟨a, vs, e1, q1, r1⟩ := hd.seq hs
    obtain ⟨b, ws, e2, q2, r2⟩ := he.seq hs
    have h2 := of_decide_eq_true h1
    exact op_cat pins s σ H x y v u Q I rx ry ⟨a, b, vs, ws, e1, e2, q1, q2, by rw [r1.length, r2.length]; exact h2, fun p hp => hq.lst hs hp (r1.append r2)⟩
  · obtain ⟨h1, rfl⟩ := if_some hg
    obtain ⟨a, vs, e1, q1, r1⟩ := hd.tup hs
    obtain ⟨b, ws, e2, q2, r2⟩ := he.tup hs
    have h2 := of_decide_eq_true h1
    refine op_catA pins s σ H x y v u Q I rx ry ⟨a, b, vs, ws, e1, e2, q1, q2, by rw [r1.length, r2.length]; exact h2, fun hz => ?_, fun hz hz2 => ?_, fun _ _ p hp => hq.tup hs hp (r1.append r2)⟩
    · subst hz
      rename_i ds es
      have hn : ds = [] := by
        cases ds with
        | nil => rfl
        | cons _ _ => have := r1.length; simp at this
      subst hn
      refine hq.val hs ?_
      rcases he with he | ⟨_, _, o⟩
      · rw [e2] at he; exact he
      · exact o.elim
    · subst hz2
      rename_i ds es
      have hn : es = [] := by
        cases es with
        | nil => rfl
        | cons _ _ => have := r2.length; simp at this
      subst hn
      rw [List.append_nil] at hq
      refine hq.val hs ?_
      rcases hd with hd | ⟨_, _, o⟩
      · rw [e1] at hd; exact hd
      · exact o.elim
def pySub (x y : PyData) : Option RV := match x, y with
  | .int i, .int j => some (.d (.int (i - j)))
  | _, _ => none
theorem opd_sub : OpD X (binaryOp .Sub) pySub := by
  refine opd_of ?_
  intro pins s σ H x y v u Q I rx ry h
  obtain ⟨F, d, e, ev, hs, hd, he, hg, hq⟩ := h
  cases d <;> cases e <;> first | (cases hg; done) | skip
  cases hg
  exact op_sub pins s σ H x y v u Q I rx ry ⟨_, _, hd.int, he.int, hq.val hs (rep_int.mpr rfl)⟩
/-- one factor below 2 ^ 64, or both together below a million bits -/
def mulOk (i j : Int) : Bool := decide (i.natAbs < 2 ^ 64) || decide (j.natAbs < 2 ^ 64) || decide (i.natAbs.log2 + j.natAbs.log2 < 1000000)
def pyMul (x y : PyData) : Option RV := match x, y with
  | .int i, .int j => if mulOk i j then some (.d (.int (i * j))) else none
  | _, _ => none
theorem opd_mul : OpD X (binaryOp .Mult) pyMul := by
  refine opd_of ?_
  intro pins s σ H x y v u Q I rx ry h
  obtain ⟨F, d, e, ev, hs, hd, he, hg, hq⟩ := h
  cases d <;> cases e <;> first | (cases hg; done) | skip
  rename_i i j
  obtain ⟨h1, rfl⟩ := if_some hg
  have q := hq.val hs (rep_int.mpr rfl)
  unfold mulOk at h1
  rw [Bool.or_eq_true, Bool.or_eq_true] at h1
  rcases h1 with (h1 | h1) | h1
  · have h2 := of_decide_eq_true h1
    exact op_mul pins s σ H x y v u Q I rx ry ⟨_, _, hd.int, he.int, .inl (by omega), q⟩
  · have h2 := of_decide_eq_true h1
    exact op_mul pins s σ H x y v u Q I rx ry ⟨_, _, hd.int, he.int, .inr (by omega), q⟩
  · exact op_mulW pins s σ H x y v u Q I rx ry ⟨_, _, hd.int, he.int, (have z : i.natAbs.log2 + j.natAbs.log2 < 1000000 := of_decide_eq_true h1; z), q⟩
def pyFloorDiv (x y : PyData) : Option RV := match x, y with
  | .int i, .int j => if decide (0 < j) && decide (j.natAbs.log2 < 9000) then some (.d (.int (i / j))) else none
  | _, _ => none
theorem opd_fdiv : OpD X (binaryOp .FloorDiv) pyFloorDiv := by
  refine opd_of ?_
  intro pins s σ H x y v u Q I rx ry h
  obtain ⟨F, d, e, ev, hs, hd, he, hg, hq⟩ := h
  cases d <;> cases e <;> first | (cases hg; done) | skip
  obtain ⟨h1, rfl⟩ := if_some hg
  rw [Bool.and_eq_true] at h1
  exact op_fdivW pins s σ H x y v u Q I rx ry ⟨_, _, hd.int, he.int, ⟨of_decide_eq_true h1.1, of_decide_eq_true h1.2⟩, hq.val hs (rep_int.mpr rfl)⟩
def pyMod (x y : PyData) : Option RV := match x, y with
  | .int i, .int j => if decide (0 < j) then some (.d (.int (i % j))) else none
  | _, _ => none
theorem opd_mod : OpD X (binaryOp .Mod) pyMod := by
  refine opd_of ?_
  intro pins s σ H x y v u Q I rx ry h
  obtain ⟨F, d, e, ev, hs, hd, he, hg, hq⟩ := h
  cases d <;> cases e <;> first | (cases hg; done) | skip
  obtain ⟨h1, rfl⟩ := if_some hg
  exact op_mod pins s σ H x y v u Q I rx ry ⟨_, _, hd.int, he.int, of_decide_eq_true h1, hq.val hs (rep_int.mpr rfl)⟩
def pyPow (x y : PyData) : Option RV := match x, y with
  | .int i, .int j => if decide (0 ≤ j) && decide (j ≤ 1000000) && decide (i.natAbs < 2 ^ 64) then some (.d (.int (i ^ j.toNat))) else none
  | _, _ => none
theorem opd_pow : OpD X (binaryOp .Pow) pyPow := by
  refine opd_of ?_
  intro pins s σ H x y v u Q I rx ry h
  obtain ⟨F, d, e, ev, hs, hd, he, hg, hq⟩ := h
  cases d <;> cases e <;> first | (cases hg; done) | skip
  obtain ⟨h1, rfl⟩ := if_some hg
  rw [Bool.and_eq_true, Bool.and_eq_true] at h1
  exact op_pow pins s σ H x y v u Q I rx ry ⟨_, _, hd.int, he.int, ⟨of_decide_eq_true h1.1.1, of_decide_eq_true h1.1.2, of_decide_eq_true h1.2⟩, hq.val hs (rep_int.mpr rfl)⟩
def pyNeg (x : PyData) : Option RV := match x with
  | .int i => some (.d (.int (-i)))
  | _ => none
theorem und_neg : UnD X (unaryOp .USub) pyNeg := by
  refine und_of ?_
  intro pins s σ H x v Q I rx h
  obtain ⟨F, d, ev, hs, hd, hg, hq⟩ := h
  cases d <;> first | (cases hg; done) | skip
  cases hg
  exact un_neg pins s σ H x v Q I rx ⟨_, hd.int, hq.val hs (rep_int.mpr rfl)⟩
end
end DL
namespace DL
open PySem L2
theorem get_set_self {α : Type} {l : List α} {i : Nat} {x y : α} (h : l[i]? = some y) : (l.set i x)[i]? = some x := by
  obtain ⟨h1, _⟩ := List.getElem?_eq_some_iff.mp h
  simp [h1]
theorem get_set_ne {α : Type} {l : List α} {i j : Nat} {x : α} (h : i ≠ j) : (l.set i x)[j]? = l[j]? := by
  simp [h]
theorem get_set_cases {α : Type} {l : List α} {i j : Nat} {x y : α} (h : (l.set i x)[j]? = some y) : (i = j ∧ x = y) ∨ (i ≠ j ∧ l[j]? = some y) := by
  by_cases e : i = j
  · subst e
    have hl : i < l.length := by
      obtain ⟨h1, _⟩ := List.getElem?_eq_some_iff.mp h
      simpa using h1
    rw [List.getElem?_set_self hl] at h
    exact .inl ⟨rfl, Option.some.inj h⟩
  · rw [get_set_ne e] at h
    exact .inr ⟨e, h⟩
section
variable {C : DCx} {σ : L2.St} {F H : Hp} {l : Loc} {env : Env'} {g : G}
theorem SrcRep.grow {a : Addr} {o : HO} (r : SrcRep F H l g) (hs : ¬ SrcAt l a) : SrcRep (upd F a o) H l g := by
  cases l with
  | none => cases g with
    | none => trivial
    | some s => exact r.elim
  | some p => cases g with
    | none => exact r.elim
    | some s =>
      obtain ⟨h1, h2, h3, h4, h5⟩ := r
      have n1 : p.1 ≠ a := fun e => hs ⟨p, rfl, .inl e.symm⟩
      have n2 : p.2 ≠ a := fun e => hs ⟨p, rfl, .inr e.symm⟩
      exact ⟨h1, h2, h3, by rw [upd_ne n1]; exact h4, by rw [upd_ne n2]; exact h5⟩
/-- a fresh object becomes data -/
theorem Rel.frz (R : Rel C σ F H l env g) {a : Addr} {x : PyData} (o : OwnRep C.K F H a x) (hf : F a = none) (h0 : C.H0 a = none) (hs : ¬ SrcAt l a) (ho : ¬ OwnAt σ env a) :
    ∃ u, H a = some u ∧ Rel C σ (upd F a u) H l env g ∧ Rep C.K (upd F a u) (V.ref a) x := by
  obtain ⟨u, hu, rp⟩ := o.freeze hf
  have up : Same F (upd F a u) := Same.upd hf
  refine ⟨u, hu, ⟨fun b w e => ?_, R.len, fun i y e => ?_, fun i y e => ?_, R.inj, fun i ns e => ?_, R.isrc, R.src.grow hs, R.old, R.oldd, R.f0.trans up, fun b e => ?_, R.lo, R.l0⟩, rp⟩
  · by_cases hb : b = a
    · subst hb; rw [upd_same] at e; cases e; exact hu
    · rw [upd_ne hb] at e; exact R.sub _ _ e
  · obtain ⟨v, h1, h2⟩ := R.dat i y e
    exact ⟨v, h1, Rep.up up _ _ h2⟩
  · obtain ⟨b, h1, h2, h3, h4, h5⟩ := R.own i y e
    have hb : b ≠ a := fun z => ho ⟨i, y, e, by rw [← z]; exact h1⟩
    exact ⟨b, h1, h2.up up fun _ q => q, by rw [upd_ne hb]; exact h3, h4, h5⟩
  · obtain ⟨b, h1, h2⟩ := R.iscr i ns e
    exact ⟨b, h1, up.seq h2⟩
  · by_cases hb : b = a
    · subst hb; exact .inr h0
    · rw [upd_ne hb] at e; exact R.fo b e
/-- a slot's own object becomes data -/
theorem Rel.leak (R : Rel C σ F H l env g) {i : Nat} {x : PyData} (e : env[i]? = some (Slot.own x)) :
    ∃ (a : Addr) (u : HO), σ[i]? = some (some (V.ref a)) ∧ H a = some u ∧ F a = none ∧ OwnAt σ env a ∧ Rel C σ (upd F a u) H l (env.set i (Slot.d x)) g ∧ Rep C.K (upd F a u) (V.ref a) x := by
  obtain ⟨a, h1, h2, h3, h4, h5⟩ := R.own i x e
  obtain ⟨u, hu, rp⟩ := h2.freeze h3
  have up : Same F (upd F a u) := Same.upd h3
  refine ⟨a, u, h1, hu, h3, ⟨i, x, e, h1⟩, ⟨fun b w q => ?_, by rw [List.length_set]; exact R.len, fun j y q => ?_, fun j y q => ?_, fun j k y z b q1 q2 => ?_, fun j ns q => ?_, fun j bb q => ?_, R.src.grow h5, R.old, R.oldd, R.f0.trans up, fun b q => ?_, R.lo, R.l0⟩, rp⟩
  · by_cases hb : b = a
    · subst hb; rw [upd_same] at q; cases q; exact hu
    · rw [upd_ne hb] at q; exact R.sub _ _ q
  · rcases get_set_cases q with ⟨z, w⟩ | ⟨z, q⟩
    · subst z; cases w; exact ⟨_, h1, rp⟩
    · obtain ⟨v, g1, g2⟩ := R.dat j y q
      exact ⟨v, g1, Rep.up up _ _ g2⟩
  · rcases get_set_cases q with ⟨z, w⟩ | ⟨z, q⟩
    · cases w
    · obtain ⟨b, g1, g2, g3, g4, g5⟩ := R.own j y q
      have hb : b ≠ a := fun w => z (R.inj i j x y a e q h1 (by rw [← w]; exact g1))
      exact ⟨b, g1, g2.up up fun _ q => q, by rw [upd_ne hb]; exact g3, g4, g5⟩
  · rcases get_set_cases q1 with ⟨z, w⟩ | ⟨z, q1⟩
    · cases w
    · rcases get_set_cases q2 with ⟨z, w⟩ | ⟨z, q2⟩
      · cases w
      · exact R.inj j k y _ b q1 q2
  · rcases get_set_cases q with ⟨z, w⟩ | ⟨z, q⟩
    · cases w
    · obtain ⟨b, g1, g2⟩ := R.iscr j ns q
      exact ⟨b, g1, up.seq g2⟩
  · rcases get_set_cases q with ⟨z, w⟩ | ⟨z, q⟩
    · cases w
    · exact R.isrc j _ q
  · by_cases hb : b = a
    · subst hb; exact .inr h4
    · rw [upd_ne hb] at q; exact R.fo b q
theorem Ext.leak {i : Nat} {x : PyData} {a : Addr} {u : HO} (hf : F a = none) (ho : OwnAt σ env a) : Ext σ F H l env (upd F a u) H l (env.set i (Slot.d x)) :=
  ⟨Same.upd hf, fun _ e => e, fun _ _ e _ _ => e, fun b e => by
    by_cases hb : b = a
    · subst hb; exact .inr (.inr ho)
    · rw [upd_ne hb] at e; exact .inl e, fun b ⟨j, y, e, h⟩ => by
    rcases get_set_cases e with ⟨z, w⟩ | ⟨z, q⟩
    · cases w
    · exact ⟨j, y, q, h⟩, fun _ e => e, fun _ e => .inl e⟩
theorem Ext.frz {F1 H1 : Hp} {l1 : Loc} {env1 : Env'} {a : Addr} {u : HO} (x : Ext σ F H l env F1 H1 l1 env1) (hf : F1 a = none) (hn : H a = none) : Ext σ F H l env (upd F1 a u) H1 l1 env1 :=
  ⟨x.fs.trans (Same.upd hf), x.hd, x.hk, fun b e => by
    by_cases hb : b = a
    · subst hb; exact .inr (.inl hn)
    · rw [upd_ne hb] at e; exact x.gr b e, x.ow, x.ls, x.ln⟩
end
/-! ### expressions: constants, names -/
def mK (x : PyData) : M EV := M.pure (.d x)
/-- a name, handed on: what it owned is data from now on -/
def mVar (i : Nat) : M EV := fun env g => match env[i]? with
  | some (.d x) => .ok (.d x) env g
  | some (.own x) => .ok (.d x) (env.set i (.d x)) g
  | some (.src b) => .ok (.src b) env g
  | some (.scr ns) => .ok (.scr ns) env g
  | _ => .bad
/-- a name, for reading -/
def mVarB (i : Nat) : M EV := fun env g => match env[i]? with
  | some (.d x) => .ok (.d x) env g
  | some (.own _) => .ok (.bo i) env g
  | some (.src b) => .ok (.src b) env g
  | some (.scr ns) => .ok (.scr ns) env g
  | _ => .bad
def mFrz : EV → M PyData
  | .d x => M.pure x
  | .fr x => M.pure x
  | _ => M.bad
section
variable {X : Cx} {C : DCx} {e : Expr} {es : List Expr} {pos : Pos}
theorem de_const {x : PyData} {v : V} (h : PE X e (tC v)) (r : ∀ F, Rep C.K F v x) : DE X C e (mK x) :=
  ⟨fun _ => ⟨_, h, fun σ F H l env g Q R w => w v F H l R .refl (r F) trivial⟩⟩
theorem de_int {i : Int} {j : Nat} {p : Pos} : DE X C (.Constant (.int i) j p) (mK (.int i)) := de_const pe_int fun _ => rep_int.mpr rfl
theorem de_bool {i : Bool} {j : Nat} {p : Pos} : DE X C (.Constant (.bool i) j p) (mK (.bool i)) := de_const pe_bl fun _ => rep_bool.mpr rfl
theorem de_none {j : Nat} {p : Pos} : DE X C (.Constant .none j p) (mK .none) := de_const pe_non fun _ => rep_none.mpr rfl
theorem de_str {i : Str} {j : Nat} {p : Pos} : DE X C (.Constant (.str i) j p) (mK (.str i)) := de_const pe_str fun _ => rep_str.mpr rfl
/-- a module's own constant -/
theorem de_glob {x : Str} {u : Value} {d : PyData} {v : V} {p : Pos} (hg : Gl X x) (hm : X.mg x = some u) (rv : RelV v u) (r : ∀ F, Rep C.K F v d) (hd : (x == ("__debug__" : Str)) = false := by decide) : DE X C (.Name x p) (mK d) :=
  de_const (pe_glob hg hm rv hd) r
theorem de_var {i : Nat} (h : PE X e (tVar i)) : DE X C e (mVar i) := by
  refine ⟨fun _ => ⟨_, h, fun σ F H l env g Q R w => ?_⟩⟩
  unfold mVar at w
  split at w
  · rename_i x q
    obtain ⟨v, h1, h2⟩ := R.dat i x q
    exact ⟨v, h1, w v F H l R .refl h2 trivial⟩
  · rename_i x q
    obtain ⟨a, u, h1, h2, h3, h4, h5, h6⟩ := R.leak q
    exact ⟨_, h1, w _ _ H l h5 (Ext.leak h3 h4) h6 trivial⟩
  · rename_i q
    obtain ⟨d, c, h1, h2⟩ := R.isrc i _ q
    exact ⟨_, h2, w _ F H l R .refl ⟨d, c, h1, rfl⟩ trivial⟩
  · rename_i ns q
    obtain ⟨a, h1, h2⟩ := R.iscr i ns q
    exact ⟨_, h1, w _ F H l R .refl ⟨a, rfl, h2⟩ trivial⟩
  · exact w.elim
theorem de_varB {i : Nat} (h : PE X e (tVar i)) : DE X C e (mVarB i) := by
  refine ⟨fun _ => ⟨_, h, fun σ F H l env g Q R w => ?_⟩⟩
  unfold mVarB at w
  split at w
  · rename_i x q
    obtain ⟨v, h1, h2⟩ := R.dat i x q
    exact ⟨v, h1, w v F H l R .refl h2 trivial⟩
  · rename_i x q
    obtain ⟨a, h1, _⟩ := R.own i x q
    exact ⟨_, h1, w _ F H l R .refl h1 trivial⟩
  · rename_i q
    obtain ⟨d, c, h1, h2⟩ := R.isrc i _ q
    exact ⟨_, h2, w _ F H l R .refl ⟨d, c, h1, rfl⟩ trivial⟩
  · rename_i ns q
    obtain ⟨a, h1, h2⟩ := R.iscr i ns q
    exact ⟨_, h1, w _ F H l R .refl ⟨a, rfl, h2⟩ trivial⟩
  · exact w.elim
/-- frozen -/
theorem dd_of {m : M EV} (h : DE X C e m) : DD X C e (m.bind mFrz) := by
  refine ⟨fun hK => ?_⟩
  obtain ⟨t, ht, s⟩ := h.run hK
  refine ⟨t, ht, fun σ F H l env g Q R w => s σ F H l env g Q R (Wp.mono (Wp.bind.mp w) (fun ev env' g' w v F' H' l' R' x r f => ?_) fun _ _ _ _ w => w)⟩
  cases ev with
  | d y => exact w v F' H' l' R' x r
  | fr y =>
    obtain ⟨a, rfl, h2, h3, h4, h5, h6⟩ := r
    obtain ⟨u, hu, R2, rp⟩ := R'.frz h2 h3 h4 h5 h6
    exact w _ _ H' l' R2 (x.frz h3 (f a rfl)) rp
  | _ => exact w.elim
/-! ### two operands -/
def mBin (gop : PyData → PyData → Option RV) (ma mb : M EV) : M EV := ma.bind fun a => mb.bind fun b => fun env g =>
  match look env a, look env b with
  | some x, some y => M.opt ((gop x y).map RV.ev) env g
  | _, _ => .bad
def mUn (gop : PyData → Option RV) (ma : M EV) : M EV := ma.bind fun a => fun env g =>
  match look env a with
  | some x => M.opt ((gop x).map RV.ev) env g
  | _ => .bad
theorem simBin {r : R2} {gop : PyData → PyData → Option RV} {ta tb : TE} {ma mb : M EV} (ha : SimE C ta ma) (hb : SimE C tb mb)
    (hr : ∀ (F H : Hp) (v w : V) (x y : PyData) (Q : VK) (ev : RV), Same F H → Bor C.K F H v x → Bor C.K F H w y → gop x y = some ev → ResK C.K F H Q ev → r v w H Q) : SimE C (tOp r ta tb) (mBin gop ma mb) := by
  intro σ F H l env g Q R w
  refine ha σ F H l env g _ R (Wp.mono (Wp.bind.mp w) (fun a env1 g1 w v F1 H1 l1 R1 x1 r1 f1 => ?_) fun _ _ _ _ w => w)
  refine hb σ F1 H1 l1 env1 g1 _ R1 (Wp.mono (Wp.bind.mp w) (fun b env2 g2 w u F2 H2 l2 R2 x2 r2 f2 => ?_) fun _ _ _ _ w => w)
  have x02 := x1.trans (C := C) x2
  have r1' := r1.up x2
  split at w
  · rename_i x y e1 e2
    cases hg : gop x y with
    | none => rw [hg] at w; exact w.elim
    | some ev =>
      rw [hg] at w
      exact hr F2 H2 v u x y Q ev R2.sub (r1'.look R2 e1) (r2.look R2 e2) hg (KE.res R2 (KE.up w x02))
  · exact w.elim
theorem de_bin {a b : Expr} {op : Operator} {gop : PyData → PyData → Option RV} {ma mb : M EV} (ho : OpD X (binaryOp op) gop) (ha : DE X C a ma) (hb : DE X C b mb) : DE X C (.BinOp a op b pos) (mBin gop ma mb) := by
  refine ⟨fun hK => ?_⟩
  obtain ⟨ta, h1, s1⟩ := ha.run hK
  obtain ⟨tb, h2, s2⟩ := hb.run hK
  obtain ⟨r, hr, hs⟩ := ho
  exact ⟨_, pe_op hr h1 h2, simBin s1 s2 (by rw [hK]; exact hs)⟩
theorem de_cmp {a b : Expr} {op : CmpOp} {gop : PyData → PyData → Option RV} {ma mb : M EV} (ho : OpD X (compareOp op) gop) (ha : DE X C a ma) (hb : DE X C b mb) (hm : behindInMarks op b = false) : DE X C (.Compare a [op] [b] pos) (mBin gop ma mb) := by
  refine ⟨fun hK => ?_⟩
  obtain ⟨ta, h1, s1⟩ := ha.run hK
  obtain ⟨tb, h2, s2⟩ := hb.run hK
  obtain ⟨r, hr, hs⟩ := ho
  exact ⟨_, pe_cmpR hr h1 h2 hm, simBin s1 s2 (by rw [hK]; exact hs)⟩
theorem de_un {a : Expr} {op : UnaryOp} {gop : PyData → Option RV} {ma : M EV} (ho : UnD X (unaryOp op) gop) (ha : DE X C a ma) : DE X C (.UnaryOp op a pos) (mUn gop ma) := by
  refine ⟨fun hK => ?_⟩
  obtain ⟨ta, h1, s1⟩ := ha.run hK
  obtain ⟨r, hr, hs⟩ := ho
  refine ⟨_, pe_un hr h1, fun σ F H l env g Q R w => ?_⟩
  refine s1 σ F H l env g _ R (Wp.mono (Wp.bind.mp w) (fun a env1 g1 w v F1 H1 l1 R1 x1 r1 f1 => ?_) fun _ _ _ _ w => w)
  split at w
  · rename_i x e1
    cases hg : gop x with
    | none => rw [hg] at w; exact w.elim
    | some ev =>
      rw [hg] at w
      exact hs F1 H1 v x Q ev R1.sub (by rw [← hK]; exact r1.look R1 e1) hg (by rw [← hK]; exact KE.res R1 (KE.up w x1))
  · exact w.elim
theorem RepEV.isb {C : DCx} {σ : L2.St} {F H : Hp} {l : Loc} {env : Env'} {v : V} {b : Bool} (h : RepEV C σ F H l env v (.d (.bool b))) : v = .bl b := by
  have h : Rep C.K F v (.bool b) := h
  exact rep_bool.mp h
theorem RepEV.ofb {C : DCx} {σ : L2.St} {F H : Hp} {l : Loc} {env : Env'} {b : Bool} : RepEV C σ F H l env (.bl b) (.d (.bool b)) := by
  show Rep C.K F (.bl b) (.bool b)
  exact rep_bool.mpr rfl
/-! ### tests -/
def mBool : EV → M Bool
  | .d (.bool b) => M.pure b
  | _ => M.bad
theorem simTest {t : TE} {m : M EV} (h : SimE C t m) : SimT C (tTest t) (m.bind mBool) := by
  intro σ F H l env g Q R w
  refine h σ F H l env g _ R (Wp.mono (Wp.bind.mp w) (fun a env1 g1 w v F1 H1 l1 R1 x1 r1 f1 => ?_) fun _ _ _ _ w => w)
  cases a with
  | d y =>
    cases y with
    | bool b => exact ⟨b, r1.isb, w F1 H1 l1 R1 x1⟩
    | _ => exact w.elim
  | _ => exact w.elim
theorem dt_cmp {a b : Expr} {op : CmpOp} {gop : PyData → PyData → Option RV} {ma mb : M EV} (ho : OpD X (compareOp op) gop) (ha : DE X C a ma) (hb : DE X C b mb) (hm : behindInMarks op b = false) : DT X C (.Compare a [op] [b] pos) ((mBin gop ma mb).bind mBool) := by
  refine ⟨fun hK => ?_⟩
  obtain ⟨ta, h1, s1⟩ := ha.run hK
  obtain ⟨tb, h2, s2⟩ := hb.run hK
  obtain ⟨r, hr, hs⟩ := ho
  exact ⟨_, pt_cmpR hr h1 h2 hm, simTest (simBin s1 s2 (by rw [hK]; exact hs))⟩
theorem dt_val {m : M EV} (h : DE X C e m) (he : ∀ whole, isTrue e X.env whole = (do let v ← whole; standAt e.pos; holding [v] (truthy v)) := by intro _; rfl) : DT X C e (m.bind mBool) := by
  refine ⟨fun hK => ?_⟩
  obtain ⟨t, h1, s1⟩ := h.run hK
  exact ⟨_, pt_val h1 he, simTest s1⟩
def mAndT (ma mb : M Bool) : M Bool := ma.bind fun a => if a then mb else M.pure false
def mOrT (ma mb : M Bool) : M Bool := ma.bind fun a => if a then M.pure true else mb
def mNotT (ma : M Bool) : M Bool := ma.bind fun a => M.pure (!a)
theorem dw_and1 {a : Expr} {ma : M Bool} (ha : DT X C a ma) : DW X C (.BoolOp .And [a] pos) ma := ⟨fun hK => let ⟨t, h, s⟩ := ha.run hK; ⟨t, pw_and1 h, s⟩⟩
theorem dw_or1 {a : Expr} {ma : M Bool} (ha : DT X C a ma) : DW X C (.BoolOp .Or [a] pos) ma := ⟨fun hK => let ⟨t, h, s⟩ := ha.run hK; ⟨t, pw_or1 h, s⟩⟩
theorem DW.dt {ma : M Bool} (h : DW X C e ma) : DT X C e ma := ⟨fun hK => let ⟨t, h, s⟩ := h.run hK; ⟨t, h.pt, s⟩⟩
theorem KT.up {σ : L2.St} {F H F1 H1 : Hp} {l l1 : Loc} {env env1 : Env'} {Q : Bool → Hp → Prop} {b : Bool} {env' : Env'} {g' : G} (h : KT C σ F H l env Q b env' g') (x : Ext σ F H l env F1 H1 l1 env1) : KT C σ F1 H1 l1 env1 Q b env' g' :=
  fun F' H' l' r y => h F' H' l' r (x.trans (C := C) y)
theorem dw_and {a b : Expr} {rest : List Expr} {ma mb : M Bool} (ha : DT X C a ma) (hb : DW X C (.BoolOp .And (b :: rest) pos) mb) : DW X C (.BoolOp .And (a :: b :: rest) pos) (mAndT ma mb) := by
  refine ⟨fun hK => ?_⟩
  obtain ⟨ta, h1, s1⟩ := ha.run hK
  obtain ⟨tb, h2, s2⟩ := hb.run hK
  refine ⟨_, pw_and h1 h2, fun σ F H l env g Q R w => ?_⟩
  refine s1 σ F H l env g _ R (Wp.mono (Wp.bind.mp w) (fun c env1 g1 w F1 H1 l1 R1 x1 => ?_) fun _ _ _ _ w => w)
  cases c with
  | true => exact s2 σ F1 H1 l1 env1 g1 Q R1 (Wp.mono w (fun _ _ _ w => KT.up w x1) fun _ _ _ _ w => w)
  | false => exact w F1 H1 l1 R1 x1
theorem dw_or {a b : Expr} {rest : List Expr} {ma mb : M Bool} (ha : DT X C a ma) (hb : DW X C (.BoolOp .Or (b :: rest) pos) mb) : DW X C (.BoolOp .Or (a :: b :: rest) pos) (mOrT ma mb) := by
  refine ⟨fun hK => ?_⟩
  obtain ⟨ta, h1, s1⟩ := ha.run hK
  obtain ⟨tb, h2, s2⟩ := hb.run hK
  refine ⟨_, pw_or h1 h2, fun σ F H l env g Q R w => ?_⟩
  refine s1 σ F H l env g _ R (Wp.mono (Wp.bind.mp w) (fun c env1 g1 w F1 H1 l1 R1 x1 => ?_) fun _ _ _ _ w => w)
  cases c with
  | true => exact w F1 H1 l1 R1 x1
  | false => exact s2 σ F1 H1 l1 env1 g1 Q R1 (Wp.mono w (fun _ _ _ w => KT.up w x1) fun _ _ _ _ w => w)
theorem dt_not {a : Expr} {ma : M Bool} (ha : DT X C a ma) : DT X C (.UnaryOp .Not a pos) (mNotT ma) := by
  refine ⟨fun hK => ?_⟩
  obtain ⟨ta, h1, s1⟩ := ha.run hK
  refine ⟨_, pt_not h1, fun σ F H l env g Q R w => ?_⟩
  exact s1 σ F H l env g _ R (Wp.mono (Wp.bind.mp w) (fun c env1 g1 w F1 H1 l1 R1 x1 => w F1 H1 l1 R1 x1) fun _ _ _ _ w => w)
/-! .. as values -/
def mAndV (ma mb : M EV) : M EV := ma.bind fun a => match a with
  | .d (.bool true) => mb
  | .d (.bool false) => M.pure (.d (.bool false))
  | _ => M.bad
def mOrV (ma mb : M EV) : M EV := ma.bind fun a => match a with
  | .d (.bool true) => M.pure (.d (.bool true))
  | .d (.bool false) => mb
  | _ => M.bad
def mNotV (ma : M EV) : M EV := ma.bind fun a => match a with
  | .d (.bool b) => M.pure (.d (.bool (!b)))
  | _ => M.bad
theorem de_one {op : BoolOp} {a : Expr} {ma : M EV} (h : DE X C a ma) : DE X C (.BoolOp op [a] pos) ma := ⟨fun hK => let ⟨t, h, s⟩ := h.run hK; ⟨t, pe_one h, s⟩⟩
theorem de_and {a b : Expr} {rest : List Expr} {ma mb : M EV} (ha : DE X C a ma) (hb : DE X C (.BoolOp .And (b :: rest) pos) mb) : DE X C (.BoolOp .And (a :: b :: rest) pos) (mAndV ma mb) := by
  refine ⟨fun hK => ?_⟩
  obtain ⟨ta, h1, s1⟩ := ha.run hK
  obtain ⟨tb, h2, s2⟩ := hb.run hK
  refine ⟨_, pe_and h1 h2, fun σ F H l env g Q R w => ?_⟩
  refine s1 σ F H l env g _ R (Wp.mono (Wp.bind.mp w) (fun c env1 g1 w v F1 H1 l1 R1 x1 r1 f1 => ?_) fun _ _ _ _ w => w)
  cases c with
  | d y =>
    cases y with
    | bool b =>
      cases b with
      | true => exact ⟨true, r1.isb, s2 σ F1 H1 l1 env1 g1 Q R1 (Wp.mono w (fun _ _ _ w => KE.up w x1) fun _ _ _ _ w => w)⟩
      | false => exact ⟨false, r1.isb, w _ F1 H1 l1 R1 x1 RepEV.ofb trivial⟩
    | _ => exact w.elim
  | _ => exact w.elim
theorem de_or {a b : Expr} {rest : List Expr} {ma mb : M EV} (ha : DE X C a ma) (hb : DE X C (.BoolOp .Or (b :: rest) pos) mb) : DE X C (.BoolOp .Or (a :: b :: rest) pos) (mOrV ma mb) := by
  refine ⟨fun hK => ?_⟩
  obtain ⟨ta, h1, s1⟩ := ha.run hK
  obtain ⟨tb, h2, s2⟩ := hb.run hK
  refine ⟨_, pe_or h1 h2, fun σ F H l env g Q R w => ?_⟩
  refine s1 σ F H l env g _ R (Wp.mono (Wp.bind.mp w) (fun c env1 g1 w v F1 H1 l1 R1 x1 r1 f1 => ?_) fun _ _ _ _ w => w)
  cases c with
  | d y =>
    cases y with
    | bool b =>
      cases b with
      | false => exact ⟨false, r1.isb, s2 σ F1 H1 l1 env1 g1 Q R1 (Wp.mono w (fun _ _ _ w => KE.up w x1) fun _ _ _ _ w => w)⟩
      | true => exact ⟨true, r1.isb, w _ F1 H1 l1 R1 x1 RepEV.ofb trivial⟩
    | _ => exact w.elim
  | _ => exact w.elim
theorem de_not {a : Expr} {ma : M EV} (ha : DE X C a ma) : DE X C (.UnaryOp .Not a pos) (mNotV ma) := by
  refine ⟨fun hK => ?_⟩
  obtain ⟨ta, h1, s1⟩ := ha.run hK
  refine ⟨_, pe_not h1, fun σ F H l env g Q R w => ?_⟩
  refine s1 σ F H l env g _ R (Wp.mono (Wp.bind.mp w) (fun c env1 g1 w v F1 H1 l1 R1 x1 r1 f1 => ?_) fun _ _ _ _ w => w)
  cases c with
  | d y =>
    cases y with
    | bool b => exact ⟨b, r1.isb, w _ F1 H1 l1 R1 x1 RepEV.ofb trivial⟩
    | _ => exact w.elim
  | _ => exact w.elim
def mIf (mt : M Bool) (ma mb : M EV) : M EV := mt.bind fun b => if b then ma else mb
theorem de_if {c a b : Expr} {mt : M Bool} {ma mb : M EV} (hc : DT X C c mt) (ha : DE X C a ma) (hb : DE X C b mb) : DE X C (.IfExp c a b pos) (mIf mt ma mb) := by
  refine ⟨fun hK => ?_⟩
  obtain ⟨tc, h0, s0⟩ := hc.run hK
  obtain ⟨ta, h1, s1⟩ := ha.run hK
  obtain ⟨tb, h2, s2⟩ := hb.run hK
  refine ⟨_, pe_ifExp h0 h1 h2, fun σ F H l env g Q R w => ?_⟩
  refine s0 σ F H l env g _ R (Wp.mono (Wp.bind.mp w) (fun c env1 g1 w F1 H1 l1 R1 x1 => ?_) fun _ _ _ _ w => w)
  cases c with
  | true => exact s1 σ F1 H1 l1 env1 g1 Q R1 (Wp.mono w (fun _ _ _ w => KE.up w x1) fun _ _ _ _ w => w)
  | false => exact s2 σ F1 H1 l1 env1 g1 Q R1 (Wp.mono w (fun _ _ _ w => KE.up w x1) fun _ _ _ _ w => w)
/-! ### argument lists -/
def mNil : M (List EV) := M.pure []
def mCons (ma : M EV) (mr : M (List EV)) : M (List EV) := ma.bind fun a => mr.bind fun r => M.pure (a :: r)
/-- handed on: frozen data, the source, the script -/
def mArg (ma : M EV) : M EV := ma.bind fun a => match a with
  | .d x => M.pure (.d x)
  | .fr x => M.pure (.d x)
  | .src b => M.pure (.src b)
  | .scr ns => M.pure (.scr ns)
  | .bo _ => M.bad
theorem simArg {t : TE} {m : M EV} (s : SimE C t m) : SimE C t (mArg m) := by
  refine fun σ F H l env g Q R w => s σ F H l env g Q R (Wp.mono (Wp.bind.mp w) (fun ev env' g' w v F' H' l' R' x r f => ?_) fun _ _ _ _ w => w)
  cases ev with
  | d y => exact w v F' H' l' R' x r trivial
  | fr y =>
    obtain ⟨a, rfl, h2, h3, h4, h5, h6⟩ := r
    obtain ⟨u, hu, R2, rp⟩ := R'.frz h2 h3 h4 h5 h6
    exact w _ _ H' l' R2 (x.frz h3 (f a rfl)) rp trivial
  | src b => exact w v F' H' l' R' x r trivial
  | scr ns => exact w v F' H' l' R' x r trivial
  | bo _ => exact w.elim
theorem de_arg {m : M EV} (h : DE X C e m) : DE X C e (mArg m) := ⟨fun hK => let ⟨t, ht, s⟩ := h.run hK; ⟨t, ht, simArg s⟩⟩
theorem da_nil : DA X C [] mNil := ⟨fun _ => ⟨_, pa_nil, fun σ F H l env g Q R w => w [] F H l R .refl .nil⟩⟩
theorem da_cons {a : Expr} {ma : M EV} {mr : M (List EV)} (ha : DE X C a ma) (hr : DA X C es mr) (hs : starEach (a :: es) X.env = (false, eval a X.env) :: starEach es X.env := by rfl) : DA X C (a :: es) (mCons ma mr) := by
  refine ⟨fun hK => ?_⟩
  obtain ⟨ta, h1, s1⟩ := ha.run hK
  obtain ⟨tr, h2, s2⟩ := hr.run hK
  refine ⟨_, pa_cons h1 h2 hs, fun σ F H l env g Q R w => ?_⟩
  refine s1 σ F H l env g _ R (Wp.mono (Wp.bind.mp w) (fun a env1 g1 w v F1 H1 l1 R1 x1 r1 f1 => ?_) fun _ _ _ _ w => w)
  refine s2 σ F1 H1 l1 env1 g1 _ R1 (Wp.mono (Wp.bind.mp w) (fun as env2 g2 w vs F2 H2 l2 R2 x2 r2 => ?_) fun _ _ _ _ w => w)
  exact w (v :: vs) F2 H2 l2 R2 (x1.trans (C := C) x2) (.cons ⟨r1.up x2, f1⟩ (Paired.imp (fun _ _ q => ⟨q.1, q.2.dn x1.hd⟩) r2))
/-- all frozen: the data of a display -/
def dataOf : List EV → Option (List PyData)
  | [] => some []
  | .d x :: r => (dataOf r).map (x :: ·)
  | _ :: _ => none
theorem dataOf_rep {σ : L2.St} {F H H0 : Hp} {l : Loc} {env : Env'} : ∀ {evs : List EV} {vs : List V} {ds : List PyData}, Paired (fun v ev => RepEV C σ F H l env v ev ∧ FreshAt H0 v ev) vs evs → dataOf evs = some ds → RepL C.K F vs ds
  | [], _, _, .nil, h => by cases h; exact repL_nil.mpr rfl
  | ev :: evs, _, ds, .cons r t, h => by
    cases ev with
    | d x =>
      cases q : dataOf evs with
      | none => simp [dataOf, q] at h
      | some es =>
        simp [dataOf, q] at h
        subst h
        exact repL_cons.mpr ⟨_, _, rfl, r.1, dataOf_rep t q⟩
    | _ => simp [dataOf] at h
def szd (ds : List PyData) : Option (List PyData) := if ds.length ≤ sizeLine then some ds else none
theorem szd_inv {ds es : List PyData} (h : szd ds = some es) : ds.length ≤ sizeLine ∧ ds = es := by
  unfold szd at h
  by_cases c : ds.length ≤ sizeLine
  · rw [if_pos c] at h; exact ⟨c, Option.some.inj h⟩
  · rw [if_neg c] at h; cases h
def mSized (f : List PyData → RV) : Option (List PyData) → M EV
  | some ds => M.opt ((szd ds).map fun es => (f es).ev)
  | none => M.bad
theorem mSized_wp {f : List PyData → RV} {o : Option (List PyData)} {e : Env'} {g : G} {K : EV → Env' → G → Prop} {E : Str → PyData → Env' → G → Prop} (h : Wp (mSized f o e g) K E) : ∃ ds, o = some ds ∧ ds.length ≤ sizeLine ∧ K (f ds).ev e g := by
  cases o with
  | none => exact h.elim
  | some ds =>
    obtain ⟨ev, q, w⟩ := Wp.opt h
    obtain ⟨es, q1, rfl⟩ := Option.map_eq_some_iff.mp q
    obtain ⟨c, rfl⟩ := szd_inv q1
    exact ⟨ds, rfl, c, w⟩
def mDisp (f : List PyData → RV) (ma : M (List EV)) : M EV := ma.bind fun evs => mSized f (dataOf evs)
theorem de_tup {x1 : Nat} {m : M (List EV)} (h : DA X C es m) : DE X C (.Tuple es x1 pos) (mDisp (fun ds => .d (.tuple ds)) m) := by
  refine ⟨fun hK => ?_⟩
  obtain ⟨t, ht, s⟩ := h.run hK
  refine ⟨_, pe_tup ht, fun σ F H l env g Q R w => ?_⟩
  refine s σ F H l env g _ R (Wp.mono (Wp.bind.mp w) (fun evs env1 g1 w vs F1 H1 l1 R1 x1 r1 => ?_) fun _ _ _ _ w => w)
  obtain ⟨ds, hd, hz, w⟩ := mSized_wp w
  have rl := dataOf_rep r1 hd
  exact ⟨by rw [rl.length]; exact hz, fun p hp => (KE.res R1 (KE.up w x1)).tup R1.sub hp rl⟩
theorem de_lst {m : M (List EV)} (h : DA X C es m) : DE X C (.List es pos) (mDisp (fun ds => .fr (.list ds)) m) := by
  refine ⟨fun hK => ?_⟩
  obtain ⟨t, ht, s⟩ := h.run hK
  refine ⟨_, pe_lst ht, fun σ F H l env g Q R w => ?_⟩
  refine s σ F H l env g _ R (Wp.mono (Wp.bind.mp w) (fun evs env1 g1 w vs F1 H1 l1 R1 x1 r1 => ?_) fun _ _ _ _ w => w)
  obtain ⟨ds, hd, hz, w⟩ := mSized_wp w
  have rl := dataOf_rep r1 hd
  exact ⟨by rw [rl.length]; exact hz, fun p hp => (KE.res R1 (KE.up w x1)).lst R1.sub hp rl⟩
/-! ### built-ins by name -/
def lookAll (env : Env') : List EV → Option (List PyData)
  | [] => some []
  | ev :: r => match look env ev with
    | some x => (lookAll env r).map (x :: ·)
    | none => none
theorem lookAll_bor {σ : L2.St} {F H H0 : Hp} {l : Loc} {env : Env'} {g : G} (R : Rel C σ F H l env g) : ∀ {evs : List EV} {vs : List V} {ds : List PyData}, Paired (fun v ev => RepEV C σ F H l env v ev ∧ FreshAt H0 v ev) vs evs → lookAll env evs = some ds → Paired (Bor C.K F H) vs ds
  | [], _, _, .nil, h => by cases h; exact .nil
  | ev :: evs, _, ds, .cons r t, h => by
    unfold lookAll at h
    split at h
    · rename_i x e
      cases q : lookAll env evs with
      | none => simp [q] at h
      | some es =>
        simp [q] at h
        subst h
        exact .cons (r.1.look R e) (lookAll_bor R t q)
    · cases h
def mCallB (gop : List PyData → Option RV) (ma : M (List EV)) : M EV := ma.bind fun evs => fun env g =>
  match lookAll env evs with
  | some xs => M.opt ((gop xs).map RV.ev) env g
  | none => .bad
theorem simCallB {r : List V → Hp → VK → Prop} {gop : List PyData → Option RV} {t : TA} {m : M (List EV)} (s : SimA C t m)
    (hr : ∀ (F H : Hp) (vs : List V) (xs : List PyData) (Q : VK) (ev : RV), Same F H → Paired (Bor C.K F H) vs xs → gop xs = some ev → ResK C.K F H Q ev → r vs H Q) : SimE C (tCB r t) (mCallB gop m) := by
  intro σ F H l env g Q R w
  refine s σ F H l env g _ R (Wp.mono (Wp.bind.mp w) (fun evs env1 g1 w vs F1 H1 l1 R1 x1 r1 => ?_) fun _ _ _ _ w => w)
  split at w
  · rename_i xs e
    cases hg : gop xs with
    | none => rw [hg] at w; exact w.elim
    | some ev =>
      rw [hg] at w
      exact hr F1 H1 vs xs Q ev R1.sub (lookAll_bor R1 r1 e) hg (KE.res R1 (KE.up w x1))
  · exact w.elim
theorem de_callB {x : Str} {id : String} {p : Pos} {a : Expr} {gop : List PyData → Option RV} {m : M (List EV)} (hc : CallD X (.builtin id) gop) (hg : Gl X x) (hm : X.mg x = none) (hv : bootBuiltins x = some (.builtin id)) (ha : DA X C (a :: es) m)
    (hn : x ≠ "__name__" := by decide) (hdb : (x == ("__debug__" : Str)) = false := by decide) (he : starEach (a :: es) X.env = (false, eval a X.env) :: starEach es X.env := by rfl) (hpl : (backTo pos (starEach es X.env)).any (·.1) = false := by rfl) :
    DE X C (.Call (.Name x p) (a :: es) [] pos) (mCallB gop m) := by
  refine ⟨fun hK => ?_⟩
  obtain ⟨t, ht, s⟩ := ha.run hK
  obtain ⟨r, hr, hs⟩ := hc
  exact ⟨_, pe_callB hr hg hm hv ht hn hdb he hpl, simCallB s (by rw [hK]; exact hs)⟩
theorem de_callTy {x : Str} {T : String} {p : Pos} {a : Expr} {gop : List PyData → Option RV} {m : M (List EV)} (hc : CallD X (.type T) gop) (hg : Gl X x) (hm : X.mg x = none) (hv : bootBuiltins x = some (.type T)) (ha : DA X C (a :: es) m)
    (hn : x ≠ "__name__" := by decide) (hdb : (x == ("__debug__" : Str)) = false := by decide) (he : starEach (a :: es) X.env = (false, eval a X.env) :: starEach es X.env := by rfl) (hpl : (backTo pos (starEach es X.env)).any (·.1) = false := by rfl) :
    DE X C (.Call (.Name x p) (a :: es) [] pos) (mCallB gop m) := by
  refine ⟨fun hK => ?_⟩
  obtain ⟨t, ht, s⟩ := ha.run hK
  obtain ⟨r, hr, hs⟩ := hc
  exact ⟨_, pe_callTy hr hg hm hv ht hn hdb he hpl, simCallB s (by rw [hK]; exact hs)⟩
end
end DL
namespace DL
open PySem L2
/-! ### enumerate of anything that begins -/
section
theorem enumNew1 {v : Value} {o : Obj} {P : Heap → Prop} (B : Begins v o P) :
    Meets (Builtin.«enumerate.__new__» ⟨[.type "enumerate", v], []⟩) (fun _ R s => P s.heap ∧
      R (.ok (.ret (.ref (s.heap.push o).objs.size))) { s with heap := (s.heap.push o).push { cls := .type "enumerate", data := .fields #[.none, .bool false, .ref s.heap.objs.size, rawInt 0, .none, .none] } }) := by
  refine .of_wp ?_
  intro prog w A R s h
  obtain ⟨hp, g, d, tk, os⟩ := s
  obtain ⟨h1, h⟩ := h
  have isE := sub_enumerate
  have it1 : ∀ {A' : Around} {E' : Value → Shared → Prop} {Q' : Value → Shared → Prop}, Q' (.ref hp.objs.size) ⟨hp.push o, g, d, tk, os⟩ → wpAny (model prog w) A' (pyIter v) Q' E' ⟨hp, g, d, tk, os⟩ := by
    intro A' E' Q' q
    exact B.iter prog w _ _ ⟨hp, g, d, tk, os⟩ _ h1 q
  wp_walk using it1
  refine wpAny_stack_any ?_
  intro st
  refine wpAny_pure ?_
  split
  · rename_i c _ _ _ _ _
    cases (c == Value.type "enumerate") <;> (wp_walk using it1; exact ⟨_, rfl, h⟩)
  · wp_walk using it1
    exact ⟨_, rfl, h⟩
theorem enumCall1 {prog : Program} {w : World} {A : Around} {E : Value → Shared → Prop} {s : Shared} {v : Value} {o : Obj} {P : Heap → Prop} {Q : Value → Shared → Prop} (B : Begins v o P) (h1 : P s.heap)
    (h : ∀ h', IsEnum h' (s.heap.objs.size + 1) s.heap.objs.size 0 .none → h'.get? s.heap.objs.size = some o → (∀ b u, s.heap.get? b = some u → h'.get? b = some u) → Q (.ref (s.heap.objs.size + 1)) { s with heap := h' }) :
    wpAny (model prog w) A (call (.type "enumerate") [v]) Q E s := by
  refine callType_new F.called_enumerate (by decide) (F.typeCall_enumerate_1 _) (F.newCall_enumerate_1 _) (fun obj => F.args_object_init_2 obj _) F.entry_enumerate_new (enumNew1 B) ⟨h1, ?_⟩
  have sz : (s.heap.push o).objs.size = s.heap.objs.size + 1 := by rw [Heap.size_push]
  show _ ∧ _
  rw [sz]
  have he : IsEnum ((s.heap.push o).push { cls := .type "enumerate", data := .fields #[.none, .bool false, .ref s.heap.objs.size, rawInt 0, .none, .none] }) (s.heap.objs.size + 1) s.heap.objs.size 0 .none := by
    have z := Heap.get?_push_size (s.heap.push o) (o := { cls := .type "enumerate", data := .fields #[.none, .bool false, .ref s.heap.objs.size, rawInt 0, .none, .none] }) rfl
    rw [sz] at z
    exact z
  exact ⟨⟨_, he, rfl⟩, h _ he (Heap.get?_push_of_some _ (Heap.get?_push_size _ B.free)) fun b u x => Heap.get?_push_of_some _ (Heap.get?_push_of_some _ x)⟩
/-- the tuple at a, each item in a new pair with its number -/
def IteT (K : PySem.W.Frag) (a : Addr) : It where
  go := fun i H => ∃ (xs : List V) (x : V), SqT K H a xs ∧ xs[i]? = some x
  yld := fun i H v H' => ∃ T x, v = .ref T ∧ H T = none ∧ H' = upd H T (.tup [.int (i : Nat), x]) ∧ ∀ xs, SqT K H a xs → xs[i]? = some x
  stop := fun i H => ∃ xs : List V, SqT K H a xs ∧ i = xs.length
theorem turnEnumT {P : Program} {w : World} {K : PySem.W.Frag} {elts : List Expr} {kk : Nat} {tpos : Pos} (a e it : Addr) :
    Turn P w K (.Tuple elts kk tpos) (IteT K a) [e, it] e (fun i h => (∃ old, IsEnum h e it (0 + ((i : Nat) : Int)) old) ∧ h.IsTupleIter it a i ∧ e ≠ it) where
  mem := by simp
  obj := fun i h st b hb => by
    obtain ⟨⟨old, he⟩, ⟨o, ho, hc, hd⟩, _⟩ := st
    rcases (show b = e ∨ b = it by simpa using hb) with z | z
    · exact z ▸ ⟨_, he, fun v q => nomatch q⟩
    · exact z ▸ ⟨o, ho, fun v q => by rw [hd] at q; cases q⟩
  keep := fun i h h' st k => by
    obtain ⟨⟨old, he⟩, hi, hne⟩ := st
    exact ⟨⟨old, k e (by simp) _ he⟩, hi.at fun o q => k it (by simp) o q, hne⟩
  item := by
    intro X hP hw hK hc i pins s σ H E I hf st hg
    subst hP hw hK
    obtain ⟨⟨old, he⟩, hit, hne⟩ := st
    obtain ⟨xs, x, hq, hx⟩ := hg
    obtain ⟨its, rv, p, hz⟩ := I.tuple hq
    obtain ⟨u, hu, ru⟩ := rv.get hx
    have hel : e < s.heap.objs.size := Heap.lt_size he
    have hil : it < s.heap.objs.size := by obtain ⟨_, q, _⟩ := hit; exact Heap.lt_size q
    have pa : s.heap.get? a ≠ none := by obtain ⟨o, q, _⟩ := p; rw [q]; nofun
    have hat : a ≠ it := fun z => by
      obtain ⟨o, q, c, _⟩ := p
      obtain ⟨o', q', c', _⟩ := hit
      rw [z, q'] at q
      cases q
      rw [c'] at c
      exact absurd c (by decide)
    have hae : a ≠ e := fun z => by
      obtain ⟨o, q, c, _⟩ := p
      have h0 := he
      unfold IsEnum at h0
      rw [z, h0] at q
      cases q
      exact absurd (show Value.type "enumerate" = Value.type "tuple" from c) (by decide)
    have D := Draws.tuple (prog := X.prog) (w := X.w) (A := X.A.in1) (I.ok.hd hc) it a hat its.toArray
    have W := GoesN.enumFrom (elts := elts) (x1 := kk) (pos := tpos) 0 D e hne (by simp [hne, hae.symm]) (by simp)
    have hi : i < its.toArray.size := by
      obtain ⟨h1, _⟩ := List.getElem?_eq_some_iff.mp hu
      simpa using h1
    refine thn (W.goes i s (fun v s2 => ∃ y H', Inv X pins σ H' s2 ∧ RelV y v ∧ (IteT X.K a).yld i H y H' ∧ ((∃ old, IsEnum s2.heap e it (0 + ((i + 1 : Nat) : Int)) old) ∧ s2.heap.IsTupleIter it a (i + 1) ∧ e ≠ it) ∧ ∀ b ∈ [e, it], H' b = none) E hi ⟨⟨old, he⟩, hit, p⟩ ?_) fun r s1 ⟨v, hr, q⟩ => ⟨v, hr, q⟩
    intro v h' tk hY st' hk ht
    obtain ⟨T, t, y, rfl, hT, hy, hTT⟩ := hY
    obtain ⟨st1, st2, st3⟩ := st'
    have ey : y = u := by
      have z : its.toArray[i]? = some y := hy
      rw [List.getElem?_toArray, hu] at z
      exact (Option.some.inj z).symm
    subst ey
    have new : ObjOk X.prog X.w (upd H T (.tup [.int (i : Nat), x])) h' T (.tup [.int (i : Nat), x]) :=
      ⟨by show 2 ≤ sizeLine; decide, [.int (0 + (i : Int)) t, y], .cons ⟨t, by rw [Int.zero_add]⟩ (.cons ru .nil), hTT⟩
    refine ⟨.ref T, _, I.turnedNew (ch := [e, it]) (fun b ob hb q => hk b ob (by simpa using hb) q) hf hT new, rfl, ⟨T, x, rfl, I.hok.fresh hT, rfl, fun ys hy => by rw [I.tuple_inj hy hq]; exact hx⟩, ⟨st1, st2, hne⟩, fun b hb => ?_⟩
    have hb' : b < s.heap.objs.size := by
      rcases (show b = e ∨ b = it by simpa using hb) with z | z <;> (rw [z]; assumption)
    rw [upd_ne (Nat.ne_of_lt (Nat.lt_of_lt_of_le hb' hT))]
    exact (hf b hb).1
  done := by
    intro X hP hw hK hc i pins s σ H E I hf st hg
    subst hP hw hK
    obtain ⟨⟨old, he⟩, hit, hne⟩ := st
    obtain ⟨xs, hq, hx⟩ := hg
    obtain ⟨its, rv, p, hz⟩ := I.tuple hq
    have hat : a ≠ it := fun z => by
      obtain ⟨o, q, c, _⟩ := p
      obtain ⟨o', q', c', _⟩ := hit
      rw [z, q'] at q
      cases q
      rw [c'] at c
      exact absurd c (by decide)
    have hae : a ≠ e := fun z => by
      obtain ⟨o, q, c, _⟩ := p
      have h0 := he
      unfold IsEnum at h0
      rw [z, h0] at q
      cases q
      exact absurd (show Value.type "enumerate" = Value.type "tuple" from c) (by decide)
    have D := Draws.tuple (prog := X.prog) (w := X.w) (A := X.A.in1) (I.ok.hd hc) it a hat its.toArray
    have W := GoesN.enumFrom (elts := elts) (x1 := kk) (pos := tpos) 0 D e hne (by simp [hne, hae.symm]) (by simp)
    have hi : i = its.toArray.size := by
      rw [hx, rv.length]
      simp
    subst hi
    refine W.stops s (fun s1 => Inv X pins σ H s1) E ⟨⟨old, he⟩, hit, p⟩ ?_
    intro h' tk hk ht
    exact I.turnedL (ch := [e, it]) (fun b o hb q => hk b o (by simpa using hb) q) hf
  self := fun A i s Q E st h => by
    obtain ⟨⟨_, he⟩, _⟩ := st
    exact wpAny_pyIter_enum he h
end
end DL
namespace DL
open PySem L2
/-! ### targets -/
inductive Pat where
  | nm (i : Nat)
  | tp (ps : List Pat)
mutual
def asg : Pat → PyData → Env' → Option Env'
  | .nm i, d, e => if i < e.length then some (e.set i (.d d)) else none
  | .tp ps, d, e => match d with
    | .tuple ds => asgL ps ds e
    | _ => none
def asgL : List Pat → List PyData → Env' → Option Env'
  | [], [], e => some e
  | p :: ps, d :: ds, e => match asg p d e with
    | some e => asgL ps ds e
    | none => none
  | _, _, _ => none
end
theorem asgL_length : ∀ {ps : List Pat} {ds : List PyData} {e e' : Env'}, asgL ps ds e = some e' → ds.length = ps.length
  | [], [], _, _, _ => rfl
  | [], _ :: _, _, _, h => by simp [asgL] at h
  | _ :: _, [], _, _, h => by simp [asgL] at h
  | p :: ps, d :: ds, e, e', h => by
    cases z : asg p d e with
    | none => simp [asgL, z] at h
    | some e1 =>
      simp [asgL, z] at h
      simp [asgL_length h]
mutual
def Pat.idx : Pat → List Nat
  | .nm i => [i]
  | .tp ps => idxL ps
def idxL : List Pat → List Nat
  | [] => []
  | p :: ps => p.idx ++ idxL ps
end
/-- the slots but those at is are as they were -/
def Off (is : List Nat) (σ σ' : L2.St) : Prop := σ'.length = σ.length ∧ ∀ j, j ∉ is → σ'[j]? = σ[j]?
theorem Off.trans {is js : List Nat} {σ σ1 σ2 : L2.St} (a : Off is σ σ1) (b : Off js σ1 σ2) : Off (is ++ js) σ σ2 :=
  ⟨b.1.trans a.1, fun j h => by
    rw [List.mem_append, not_or] at h
    rw [b.2 j h.2, a.2 j h.1]⟩
theorem Rel.setd {C : DCx} {σ : L2.St} {F H : Hp} {l : Loc} {env : Env'} {g : G} {v : V} {d : PyData} (R : Rel C σ F H l env g) (i : Nat) (r : Rep C.K F v d) : Rel C (σ.set i (some v)) F H l (env.set i (.d d)) g where
  sub := R.sub
  len := by rw [List.length_set, List.length_set]; exact R.len
  dat := fun j x e => by
    rcases get_set_cases e with ⟨z, w⟩ | ⟨z, q⟩
    · subst z
      cases w
      have hl : i < σ.length := by
        rw [R.len]
        obtain ⟨h1, _⟩ := List.getElem?_eq_some_iff.mp e
        simpa using h1
      exact ⟨v, List.getElem?_set_self hl, r⟩
    · rw [get_set_ne z]; exact R.dat j x q
  own := fun j x e => by
    rcases get_set_cases e with ⟨z, w⟩ | ⟨z, q⟩
    · cases w
    · rw [get_set_ne z]; exact R.own j x q
  inj := fun j k x y a e1 e2 h1 h2 => by
    rcases get_set_cases e1 with ⟨z, w⟩ | ⟨z, q⟩
    · cases w
    · rcases get_set_cases e2 with ⟨z2, w⟩ | ⟨z2, q2⟩
      · cases w
      · rw [get_set_ne z] at h1
        rw [get_set_ne z2] at h2
        exact R.inj j k x y a q q2 h1 h2
  iscr := fun j ns e => by
    rcases get_set_cases e with ⟨z, w⟩ | ⟨z, q⟩
    · cases w
    · rw [get_set_ne z]; exact R.iscr j ns q
  isrc := fun j b e => by
    rcases get_set_cases e with ⟨z, w⟩ | ⟨z, q⟩
    · cases w
    · rw [get_set_ne z]; exact R.isrc j b q
  src := R.src
  old := R.old
  oldd := R.oldd
  f0 := R.f0
  fo := R.fo
  lo := R.lo
  l0 := R.l0
theorem OwnAt.setd {σ : L2.St} {env : Env'} {i : Nat} {d : PyData} {v : V} {a : Addr} (h : OwnAt (σ.set i (some v)) (env.set i (.d d)) a) : OwnAt σ env a := by
  obtain ⟨j, x, e, q⟩ := h
  rcases get_set_cases e with ⟨z, w⟩ | ⟨z, e⟩
  · cases w
  · rw [get_set_ne z] at q
    exact ⟨j, x, e, q⟩
def SimG (C : DCx) (g : TG) (p : Pat) : Prop := ∀ (σ : L2.St) (F H : Hp) (l : Loc) (env env' : Env') (gs : G) (v : V) (d : PyData) (Q : L2.St → Hp → Prop), Rel C σ F H l env gs → Rep C.K F v d → asg p d env = some env' →
  (∀ σ', Rel C σ' F H l env' gs → Off p.idx σ σ' → (∀ a, OwnAt σ' env' a → OwnAt σ env a) → Q σ' H) → g v σ H Q
def SimGs (C : DCx) (g : TGs) (ps : List Pat) : Prop := ∀ (σ : L2.St) (F H : Hp) (l : Loc) (env env' : Env') (gs : G) (vs : List V) (ds : List PyData) (Q : L2.St → Hp → Prop), Rel C σ F H l env gs → RepL C.K F vs ds → asgL ps ds env = some env' →
  (∀ σ', Rel C σ' F H l env' gs → Off (idxL ps) σ σ' → (∀ a, OwnAt σ' env' a → OwnAt σ env a) → Q σ' H) → g vs σ H Q
structure DG (X : Cx) (C : DCx) (e : Expr) (p : Pat) : Prop where
  run : C.K = X.K → ∃ g, PG X e g ∧ SimG C g p
structure DGs (X : Cx) (C : DCx) (es : List Expr) (ps : List Pat) : Prop where
  run : C.K = X.K → ∃ g, PGs X es g ∧ SimGs C g ps
section
variable {X : Cx} {C : DCx} {pos : Pos}
theorem dg_of {e : Expr} {i : Nat} (h : PG X e (gName i)) : DG X C e (.nm i) := ⟨fun _ => ⟨_, h, fun σ F H l env env' gs v d Q R r e q => by
  unfold asg at e
  split at e
  · cases e
    exact q _ (R.setd i r) ⟨by simp, fun j hj => get_set_ne (fun z => hj (by simp [Pat.idx, z]))⟩ fun a h => h.setd
  · cases e⟩⟩
theorem dgs_nil : DGs X C [] [] := ⟨fun _ => ⟨_, pgs_nil, fun σ F H l env env' gs vs ds Q R r e q => by
  cases ds with
  | nil =>
    cases e
    exact ⟨repL_nil.mp r, q σ R ⟨rfl, fun _ _ => rfl⟩ fun _ h => h⟩
  | cons _ _ => cases e⟩⟩
theorem dgs_cons {e : Expr} {es : List Expr} {p : Pat} {ps : List Pat} (h : DG X C e p) (hs : DGs X C es ps) (ha : (assignEach (e :: es) X.env).map (·.2) = assign e X.env :: (assignEach es X.env).map (·.2) := by rfl) : DGs X C (e :: es) (p :: ps) := by
  refine ⟨fun hK => ?_⟩
  obtain ⟨g, h1, s1⟩ := h.run hK
  obtain ⟨gs, h2, s2⟩ := hs.run hK
  refine ⟨_, pgs_cons h1 h2 ha, fun σ F H l env env' G vs ds Q R r e q => ?_⟩
  cases ds with
  | nil => cases e
  | cons d ds =>
    obtain ⟨v, w, rfl, r1, r2⟩ := repL_cons.mp r
    refine ⟨v, w, rfl, ?_⟩
    cases z : asg p d env with
    | none => simp [asgL, z] at e
    | some env1 =>
      simp [asgL, z] at e
      refine s1 σ F H l env env1 G v d _ R r1 z fun σ1 R1 o1 w1 => ?_
      refine s2 σ1 F H l env1 env' G w ds Q R1 r2 e fun σ2 R2 o2 w2 => ?_
      exact q σ2 R2 (o1.trans o2) fun a h => w1 a (w2 a h)
theorem dg_tup {es : List Expr} {k : Nat} {ps : List Pat} (hc : X.calm = true) (h : DGs X C es ps) (hn : (assignEach es X.env).length = ps.length := by rfl) (hst : (assignEach es X.env).findIdx? (·.1) = none := by rfl) : DG X C (.Tuple es k pos) (.tp ps) := by
  refine ⟨fun hK => ?_⟩
  obtain ⟨g, h1, s1⟩ := h.run hK
  refine ⟨_, pg_tup hc h1 hn hst, fun σ F H l env env' G v d Q R r e q => ?_⟩
  unfold asg at e
  split at e
  · rename_i ds
    obtain ⟨a, vs, rfl, t, r⟩ := rep_tup.mp r
    refine ⟨a, vs, rfl, by rw [← hK]; exact SqT.up R.sub t, ?_, s1 σ F H l env env' G vs ds Q R r e fun σ' R' o w => q σ' R' o w⟩
    rw [r.length]
    exact asgL_length e
  · cases e
end
/-! ### what is walked -/
structure Walks (K : PySem.W.Frag) (J : It) (xs : List PyData) (F : Hp) : Prop where
  go : ∀ F' H' i, Same F F' → Same F' H' → i < xs.length → J.go i H'
  yl : ∀ F' H' i v H2, Same F F' → Same F' H' → i < xs.length → J.yld i H' v H2 → ∃ F2 d, xs[i]? = some d ∧ New K F' H' F2 H2 v (.d d)
  st : ∀ F' H', Same F F' → Same F' H' → J.stop xs.length H'
theorem New.same {K : PySem.W.Frag} {F H : Hp} {v : V} {d : PyData} (s : Same F H) (r : Rep K F v d) : New K F H F H v (.d d) := ⟨.refl _, .refl _, s, fun _ e => .inl e, r⟩
theorem New.tup {K : PySem.W.Frag} {F H : Hp} {p : Addr} {vs : List V} {ds : List PyData} (s : Same F H) (n : H p = none) (r : RepL K F vs ds) : New K F H (upd F p (.tup vs)) (upd H p (.tup vs)) (.ref p) (.d (.tuple ds)) := by
  have nf := none_sub s n
  refine ⟨Same.upd nf, Same.upd n, fun b o e => ?_, fun a e => ?_, ?_⟩
  · by_cases hb : b = p
    · subst hb; rw [upd_same] at e ⊢; exact e
    · rw [upd_ne hb] at e ⊢; exact s _ _ e
  · by_cases hb : a = p
    · subst hb; exact .inr n
    · rw [upd_ne hb] at e; exact .inl e
  · exact rep_tup.mpr ⟨p, vs, rfl, SqT.of upd_same, RepL.up (Same.upd nf) _ _ r⟩
theorem walks_list {K : PySem.W.Frag} {F : Hp} {a : Addr} {vs : List V} {ds : List PyData} (h : F a = some (.lst vs)) (r : RepL K F vs ds) : Walks K (Itl K a) ds F where
  go := fun F' H' i s1 s2 hi => by
    rw [← r.length] at hi
    exact ⟨vs, vs[i], SqL.of (s2 _ _ (s1 _ _ h)), by simp [hi]⟩
  yl := fun F' H' i v H2 s1 s2 hi y => by
    obtain ⟨rfl, y⟩ := y
    obtain ⟨d, hd, rd⟩ := r.get (y vs (SqL.of (s2 _ _ (s1 _ _ h))))
    exact ⟨F', d, hd, New.same s2 (Rep.up s1 _ _ rd)⟩
  st := fun F' H' s1 s2 => ⟨vs, SqL.of (s2 _ _ (s1 _ _ h)), Nat.le_of_eq r.length⟩
theorem walks_tup {K : PySem.W.Frag} {F : Hp} {a : Addr} {vs : List V} {ds : List PyData} (h : SqT K F a vs) (r : RepL K F vs ds) : Walks K (Itt K a) ds F where
  go := fun F' H' i s1 s2 hi => by
    rw [← r.length] at hi
    exact ⟨vs, vs[i], SqT.up s2 (SqT.up s1 h), by simp [hi]⟩
  yl := fun F' H' i v H2 s1 s2 hi y => by
    obtain ⟨rfl, y⟩ := y
    obtain ⟨d, hd, rd⟩ := r.get (y vs (SqT.up s2 (SqT.up s1 h)))
    exact ⟨F', d, hd, New.same s2 (Rep.up s1 _ _ rd)⟩
  st := fun F' H' s1 s2 => ⟨vs, SqT.up s2 (SqT.up s1 h), Nat.le_of_eq r.length⟩
def signs (z : Str) : List PyData := z.cps.toList.map fun c => .str ⟨#[c]⟩
theorem walks_str {K : PySem.W.Frag} {F : Hp} {z : Str} : Walks K (Its z) (signs z) F where
  go := fun F' H' i s1 s2 hi => by
    have hi : i < z.cps.size := by simpa [signs] using hi
    exact hi
  yl := fun F' H' i v H2 s1 s2 hi y => by
    obtain ⟨rfl, c, hc, rfl⟩ := y
    exact ⟨F', .str ⟨#[c]⟩, by simp [signs, hc], New.same s2 (rep_str.mpr rfl)⟩
  st := fun F' H' s1 s2 => by
    show z.cps.size ≤ _
    simp [signs]
def intsFrom (lo : Int) (n : Nat) : List PyData := (List.range n).map fun i => .int (lo + (i : Nat))
theorem walks_range {K : PySem.W.Frag} {F : Hp} {lo : Int} {n : Nat} : Walks K (Itr lo n) (intsFrom lo n) F where
  go := fun F' H' i s1 s2 hi => by
    have hi : i < n := by simpa [intsFrom] using hi
    exact hi
  yl := fun F' H' i v H2 s1 s2 hi y => by
    obtain ⟨rfl, rfl⟩ := y
    have hi : i < n := by simpa [intsFrom] using hi
    exact ⟨F', .int (lo + (i : Nat)), by simp [intsFrom, hi], New.same s2 (rep_int.mpr rfl)⟩
  st := fun F' H' s1 s2 => by
    show n ≤ _
    simp [intsFrom]
def numbered : Nat → List PyData → List PyData
  | _, [] => []
  | k, d :: ds => .tuple [.int (k : Nat), d] :: numbered (k + 1) ds
theorem numbered_length : ∀ (ds : List PyData) (k : Nat), (numbered k ds).length = ds.length
  | [], _ => rfl
  | d :: ds, k => by simp [numbered, numbered_length ds]
theorem numbered_get : ∀ (ds : List PyData) (k i : Nat) (d : PyData), ds[i]? = some d → (numbered k ds)[i]? = some (.tuple [.int ((k + i : Nat) : Int), d])
  | [], _, _, _, h => by simp at h
  | d :: ds, k, 0, x, h => by simp at h; subst h; simp [numbered]
  | d :: ds, k, i + 1, x, h => by
    have := numbered_get ds (k + 1) i x (by simpa using h)
    simp only [numbered, List.getElem?_cons_succ]
    rw [this]
    congr 4
    omega
theorem repL_two {K : PySem.W.Frag} {F : Hp} {a b : V} {x y : PyData} (h1 : Rep K F a x) (h2 : Rep K F b y) : RepL K F [a, b] [x, y] := repL_cons.mpr ⟨_, _, rfl, h1, repL_cons.mpr ⟨_, _, rfl, h2, repL_nil.mpr rfl⟩⟩
theorem walks_enum {K : PySem.W.Frag} {F : Hp} {a : Addr} {vs : List V} {ds : List PyData} (h : F a = some (.lst vs)) (r : RepL K F vs ds) : Walks K (Ite K a) (numbered 0 ds) F where
  go := fun F' H' i s1 s2 hi => by
    rw [numbered_length, ← r.length] at hi
    exact ⟨vs, vs[i], SqL.of (s2 _ _ (s1 _ _ h)), by simp [hi]⟩
  yl := fun F' H' i v H2 s1 s2 hi y => by
    obtain ⟨T, x, rfl, hT, rfl, y⟩ := y
    obtain ⟨d, hd, rd⟩ := r.get (y vs (SqL.of (s2 _ _ (s1 _ _ h))))
    exact ⟨_, _, by rw [numbered_get ds 0 i d hd, Nat.zero_add], New.tup s2 hT (repL_two (rep_int.mpr rfl) (Rep.up s1 _ _ rd))⟩
  st := fun F' H' s1 s2 => ⟨vs, SqL.of (s2 _ _ (s1 _ _ h)), by rw [numbered_length]; exact Nat.le_of_eq r.length⟩
theorem walks_enumT {K : PySem.W.Frag} {F : Hp} {a : Addr} {vs : List V} {ds : List PyData} (h : SqT K F a vs) (r : RepL K F vs ds) : Walks K (IteT K a) (numbered 0 ds) F where
  go := fun F' H' i s1 s2 hi => by
    rw [numbered_length, ← r.length] at hi
    exact ⟨vs, vs[i], SqT.up s2 (SqT.up s1 h), by simp [hi]⟩
  yl := fun F' H' i v H2 s1 s2 hi y => by
    obtain ⟨T, x, rfl, hT, rfl, y⟩ := y
    obtain ⟨d, hd, rd⟩ := r.get (y vs (SqT.up s2 (SqT.up s1 h)))
    exact ⟨_, _, by rw [numbered_get ds 0 i d hd, Nat.zero_add], New.tup s2 hT (repL_two (rep_int.mpr rfl) (Rep.up s1 _ _ rd))⟩
  st := fun F' H' s1 s2 => ⟨vs, SqT.up s2 (SqT.up s1 h), by rw [numbered_length]; exact r.length.symm⟩
def zipped (xs ys : List PyData) : List PyData := List.zipWith (fun a b => .tuple [a, b]) xs ys
theorem zipped_length (xs ys : List PyData) : (zipped xs ys).length = min xs.length ys.length := by simp [zipped]
theorem walks_zip {K : PySem.W.Frag} {F : Hp} {a b : Addr} {vs ws : List V} {ds es : List PyData} (h : F a = some (.lst vs)) (r : RepL K F vs ds) (h2 : F b = some (.lst ws)) (r2 : RepL K F ws es) : Walks K (Itz K a b) (zipped ds es) F where
  go := fun F' H' i s1 s2 hi => by
    rw [zipped_length, ← r.length, ← r2.length] at hi
    have q1 : i < vs.length := by omega
    have q2 : i < ws.length := by omega
    exact walk_zip (K := K) (n := min vs.length ws.length) rfl |>.goes i H' (by omega) ⟨SqL.of (s2 _ _ (s1 _ _ h)), SqL.of (s2 _ _ (s1 _ _ h2))⟩
  yl := fun F' H' i v H2 s1 s2 hi y => by
    rw [zipped_length, ← r.length, ← r2.length] at hi
    obtain ⟨T, x, z, rfl, hT, rfl, y1, y2⟩ := walk_zip (K := K) (n := min vs.length ws.length) rfl |>.yields i H' v H2 (by omega) ⟨SqL.of (s2 _ _ (s1 _ _ h)), SqL.of (s2 _ _ (s1 _ _ h2))⟩ y
    obtain ⟨d, hd, rd⟩ := r.get y1
    obtain ⟨d2, hd2, rd2⟩ := r2.get y2
    exact ⟨_, _, by simp [zipped, List.getElem?_zipWith, hd, hd2], New.tup s2 hT (repL_two (Rep.up s1 _ _ rd) (Rep.up s1 _ _ rd2))⟩
  st := fun F' H' s1 s2 => by
    rw [zipped_length, ← r.length, ← r2.length]
    exact walk_zip (K := K) (n := min vs.length ws.length) rfl |>.stops H' ⟨SqL.of (s2 _ _ (s1 _ _ h)), SqL.of (s2 _ _ (s1 _ _ h2))⟩
theorem walks_zipT {K : PySem.W.Frag} {F : Hp} {a b : Addr} {vs ws : List V} {ds es : List PyData} (h : SqT K F a vs) (r : RepL K F vs ds) (h2 : SqT K F b ws) (r2 : RepL K F ws es) : Walks K (RZ.ItzT K a b) (zipped ds es) F where
  go := fun F' H' i s1 s2 hi => by
    rw [zipped_length, ← r.length, ← r2.length] at hi
    have q1 : i < vs.length := by omega
    have q2 : i < ws.length := by omega
    exact ⟨vs, ws, vs[i], ws[i], SqT.up s2 (SqT.up s1 h), SqT.up s2 (SqT.up s1 h2), by simp [q1], by simp [q2]⟩
  yl := fun F' H' i v H2 s1 s2 hi y => by
    obtain ⟨T, x, z, rfl, hT, rfl, y1, y2⟩ := y
    obtain ⟨d, hd, rd⟩ := r.get (y1 vs (SqT.up s2 (SqT.up s1 h)))
    obtain ⟨d2, hd2, rd2⟩ := r2.get (y2 ws (SqT.up s2 (SqT.up s1 h2)))
    exact ⟨_, _, by simp [zipped, List.getElem?_zipWith, hd, hd2], New.tup s2 hT (repL_two (Rep.up s1 _ _ rd) (Rep.up s1 _ _ rd2))⟩
  st := fun F' H' s1 s2 => ⟨vs, ws, SqT.up s2 (SqT.up s1 h), SqT.up s2 (SqT.up s1 h2), by rw [zipped_length, ← r.length, ← r2.length]; omega⟩
def KI (C : DCx) (σ : L2.St) (F H : Hp) (l : Loc) (env : Env') (R : It → Hp → Prop) : List PyData → Env' → G → Prop := fun xs env' g' =>
  ∀ J F' H' l', Rel C σ F' H' l' env' g' → Ext σ F H l env F' H' l' env' → Walks C.K J xs F' → R J H'
def SimI (C : DCx) (wi : TI) (m : M (List PyData)) : Prop := ∀ (σ : L2.St) (F H : Hp) (l : Loc) (env : Env') (g : G) (R : It → Hp → Prop), Rel C σ F H l env g → Wp (m env g) (KI C σ F H l env R) (KX C σ) → wi σ H R
structure DI (X : Cx) (C : DCx) (tg e : Expr) (m : M (List PyData)) : Prop where
  run : C.K = X.K → ∃ wi, PI X tg e wi ∧ SimI C wi m
/-- a list, a tuple, a text -/
def mItems : PyData → M (List PyData)
  | .list ds => M.pure ds
  | .tuple ds => M.pure ds
  | .str z => M.pure (signs z)
  | _ => M.bad
section
variable {X : Cx} {C : DCx} {pos : Pos} {tg e : Expr} {es : List Expr}
def iSeq (K : PySem.W.Frag) (t : TE) : TI := fun σ H R => t σ H fun x H1 => (∃ a, x = .ref a ∧ (∃ xs, SqL K H1 a xs) ∧ R (Itl K a) H1) ∨ (∃ a, x = .ref a ∧ (∃ xs, SqT K H1 a xs) ∧ R (Itt K a) H1) ∨ ∃ z, x = .str z ∧ R (Its z) H1
theorem pi_seq {t : TE} (h : PE X e t) : PI X tg e (iSeq X.K t) := by
  refine ⟨fun pins s σ H R I w => ?_⟩
  refine thn (h.run pins s σ H _ I w) fun v s1 ⟨x, H1, I1, r1, q1⟩ => ?_
  rcases q1 with ⟨a, rfl, ⟨xs, hq⟩, q⟩ | ⟨a, rfl, ⟨xs, hq⟩, q⟩ | ⟨z, rfl, q⟩
  · cases r1
    obtain ⟨its, rv, p, _⟩ := I1.list hq
    exact wpAny_pyIter_list p.isList (pi_one (tk := s1.toks) I1 _ (turn_list a _) ⟨_, Heap.get?_push_size _ rfl, rfl, rfl⟩ q)
  · cases r1
    obtain ⟨its, rv, p, _⟩ := I1.tuple hq
    exact wpAny_pyIter_tuple (show s1.heap.IsTuple a its.toArray from p) (pi_one (tk := s1.toks) I1 _ (turn_tuple a _) ⟨_, Heap.get?_push_size _ rfl, rfl, rfl⟩ q)
  · obtain ⟨t, rfl⟩ := r1
    cases ha : z.cps.all (· < 128)
    · exact wpAny_pyIter_wide ha (pi_one (tk := s1.toks) I1 _ (turn_str _ z t "str_iterator" (.inr rfl)) ⟨_, Heap.get?_push_size _ rfl, rfl, rfl⟩ q)
    · exact wpAny_pyIter_ascii ha (pi_one (tk := s1.toks) I1 _ (turn_str _ z t "str_ascii_iterator" (.inl rfl)) ⟨_, Heap.get?_push_size _ rfl, rfl, rfl⟩ q)
theorem di_seq {m : M PyData} (h : DD X C e m) : DI X C tg e (m.bind mItems) := by
  refine ⟨fun hK => ?_⟩
  obtain ⟨t, h1, s1⟩ := h.run hK
  refine ⟨_, pi_seq h1, fun σ F H l env g R Rl w => ?_⟩
  refine s1 σ F H l env g _ Rl (Wp.mono (Wp.bind.mp w) (fun d env1 g1 w v F1 H1 l1 R1 x1 r1 => ?_) fun _ _ _ _ w => w)
  cases d with
  | list ds =>
    obtain ⟨a, vs, rfl, q, r⟩ := rep_list.mp r1
    exact .inl ⟨a, rfl, ⟨vs, SqL.of (R1.sub _ _ q)⟩, by rw [← hK]; exact w _ F1 H1 l1 R1 x1 (walks_list q r)⟩
  | tuple ds =>
    obtain ⟨a, vs, rfl, q, r⟩ := rep_tup.mp r1
    exact .inr (.inl ⟨a, rfl, ⟨vs, by rw [← hK]; exact SqT.up R1.sub q⟩, by rw [← hK]; exact w _ F1 H1 l1 R1 x1 (walks_tup q r)⟩)
  | str z => exact .inr (.inr ⟨z, rep_str.mp r1, w _ F1 H1 l1 R1 x1 walks_str⟩)
  | _ => exact w.elim
/-- range(j), range(i, j) -/
def evInts : List EV → Option (List Int)
  | [] => some []
  | .d (.int i) :: r => (evInts r).map (i :: ·)
  | _ :: _ => none
theorem evInts_rep {σ : L2.St} {F H H0 : Hp} {l : Loc} {env : Env'} : ∀ {evs : List EV} {vs : List V} {is : List Int}, Paired (fun v ev => RepEV C σ F H l env v ev ∧ FreshAt H0 v ev) vs evs → evInts evs = some is → vs = is.map V.int
  | [], _, _, .nil, h => by cases h; rfl
  | ev :: evs, _, is, .cons r t, h => by
    cases ev with
    | d x =>
      cases x with
      | int i =>
        cases q : evInts evs with
        | none => simp [evInts, q] at h
        | some js =>
          simp [evInts, q] at h
          subst h
          rw [evInts_rep t q, show _ = V.int i from rep_int.mp (show Rep C.K F _ (.int i) from r.1)]
          rfl
      | _ => simp [evInts] at h
    | _ => simp [evInts] at h
def rngTo (i j : Int) : Option (List PyData) := if i.natAbs < 2 ^ 62 ∧ j.natAbs < 2 ^ 62 then some (intsFrom i (j - i).toNat) else none
theorem rngTo_inv {i j : Int} {xs : List PyData} (h : rngTo i j = some xs) : (-(2 ^ 62) ≤ i ∧ i < 2 ^ 62 ∧ -(2 ^ 62) ≤ j ∧ j < 2 ^ 62) ∧ intsFrom i (j - i).toNat = xs := by
  unfold rngTo at h
  split at h
  · rename_i c; exact ⟨⟨by omega, by omega, by omega, by omega⟩, Option.some.inj h⟩
  · cases h
def rng1 : List Int → M (List PyData)
  | [j] => M.opt (rngTo 0 j)
  | _ => M.bad
def rng2 : List Int → M (List PyData)
  | [i, j] => M.opt (rngTo i j)
  | _ => M.bad
def mRange1 (evs : List EV) : M (List PyData) := (M.opt (evInts evs)).bind rng1
def mRange2 (evs : List EV) : M (List PyData) := (M.opt (evInts evs)).bind rng2
theorem wp_ite {α : Type} {c : Prop} [Decidable c] {m : M α} {e : Env'} {g : G} {K : α → Env' → G → Prop} {E : Str → PyData → Env' → G → Prop} (h : Wp ((if c then m else M.bad) e g) K E) : c ∧ Wp (m e g) K E := by
  by_cases q : c
  · rw [if_pos q] at h; exact ⟨q, h⟩
  · rw [if_neg q] at h; exact h.elim
theorem di_range1 {a : Expr} {p : Pos} {m : M (List EV)} (hg : Gl X "range") (hm : X.mg "range" = none) (h : DA X C [a] m) (hs : starEach [a] X.env = [(false, eval a X.env)] := by rfl) : DI X C tg (.Call (.Name "range" p) [a] [] pos) (m.bind mRange1) := by
  refine ⟨fun hK => ?_⟩
  obtain ⟨t, h1, s1⟩ := h.run hK
  refine ⟨_, pi_range1 hg hm h1 hs, fun σ F H l env g R Rl w => ?_⟩
  refine s1 σ F H l env g _ Rl (Wp.mono (Wp.bind.mp w) (fun evs env1 g1 w vs F1 H1 l1 R1 x1 r1 => ?_) fun _ _ _ _ w => w)
  obtain ⟨is, q, w⟩ := Wp.opt (Wp.bind.mp w)
  rcases is with _ | ⟨j, _ | ⟨k, t⟩⟩
  · exact w.elim
  · obtain ⟨xs, q1, w⟩ := Wp.opt w
    obtain ⟨⟨_, _, c1, c2⟩, rfl⟩ := rngTo_inv q1
    rw [Int.sub_zero] at w
    exact ⟨j, evInts_rep r1 q, c1, c2, w _ F1 H1 l1 R1 x1 walks_range⟩
  · exact w.elim
theorem di_range2 {a b : Expr} {p : Pos} {m : M (List EV)} (hg : Gl X "range") (hm : X.mg "range" = none) (h : DA X C [a, b] m) (hs : starEach [a, b] X.env = [(false, eval a X.env), (false, eval b X.env)] := by rfl) (hs2 : starEach [b] X.env = [(false, eval b X.env)] := by rfl) :
    DI X C tg (.Call (.Name "range" p) [a, b] [] pos) (m.bind mRange2) := by
  refine ⟨fun hK => ?_⟩
  obtain ⟨t, h1, s1⟩ := h.run hK
  refine ⟨_, pi_range2 hg hm h1 hs hs2, fun σ F H l env g R Rl w => ?_⟩
  refine s1 σ F H l env g _ Rl (Wp.mono (Wp.bind.mp w) (fun evs env1 g1 w vs F1 H1 l1 R1 x1 r1 => ?_) fun _ _ _ _ w => w)
  obtain ⟨is, q, w⟩ := Wp.opt (Wp.bind.mp w)
  rcases is with _ | ⟨i, _ | ⟨j, _ | ⟨k, t⟩⟩⟩
  · exact w.elim
  · exact w.elim
  · obtain ⟨xs, q1, w⟩ := Wp.opt w
    obtain ⟨c, rfl⟩ := rngTo_inv q1
    exact ⟨i, j, evInts_rep r1 q, c, w _ F1 H1 l1 R1 x1 walks_range⟩
  · exact w.elim
/-- enumerate of a list or a tuple -/
def mEnum : List EV → M (List PyData)
  | [.d (.list ds)] => M.pure (numbered 0 ds)
  | [.d (.tuple ds)] => M.pure (numbered 0 ds)
  | _ => M.bad
def iEnumA (K : PySem.W.Frag) (ta : TA) : TI := fun σ H R => ta σ H fun vs H1 => ∃ a, vs = [.ref a] ∧ ((∃ xs, SqL K H1 a xs ∧ R (Ite K a) H1) ∨ ∃ xs, SqT K H1 a xs ∧ R (IteT K a) H1)
theorem pi_enumA {a : Expr} {ta : TA} {p tpos : Pos} {elts : List Expr} {kk : Nat} (hg : Gl X "enumerate") (hm : X.mg "enumerate" = none) (ha : PA X [a] ta) (hs : starEach [a] X.env = [(false, eval a X.env)] := by rfl) :
    PI X (.Tuple elts kk tpos) (.Call (.Name "enumerate" p) [a] [] pos) (iEnumA X.K ta) := by
  refine ⟨fun pins s σ H R I h => ?_⟩
  refine PyProof.Rows.Call_ (ld_blt I hg hm PyProof.Rows.boot_enumerate (PyProof.Rows.callWith_type1 (thn (ha.run pos pins s σ H _ I h) fun us s1 ⟨vs, H1, I1, r1, q1⟩ => ?_) hs rfl))
  obtain ⟨a, ex, q1⟩ := q1
  subst ex
  cases r1 with
  | cons r rr =>
    cases rr
    cases r
    have two : ∀ b, b ∈ [s1.heap.objs.size + 1, s1.heap.objs.size] → FpOk X pins H1 b := fun b hb => by
      have hle : s1.heap.objs.size ≤ b := by
        rcases (show b = s1.heap.objs.size + 1 ∨ b = s1.heap.objs.size by simpa using hb) with z | z <;> omega
      exact I1.fpOk hle (I1.hok.fresh hle)
    rcases q1 with ⟨xs, hq, q⟩ | ⟨xs, hq, q⟩
    · obtain ⟨its, rv, p', hz⟩ := I1.list hq
      refine enumCall1 (begins_list a its.toArray) p'.isList fun h' he ho hk => wpAny_pyIter_enum he ?_
      have I2 : Inv X pins σ H1 { s1 with heap := h' } := I1.kept (t' := s1.toks) hk
      exact ⟨s1.heap.objs.size + 1, [s1.heap.objs.size + 1, s1.heap.objs.size], _, _, H1, rfl, I2, turn_enum a (s1.heap.objs.size + 1) s1.heap.objs.size, ⟨⟨.none, he⟩, ⟨_, ho, rfl, rfl⟩, Nat.succ_ne_self _⟩, two, q⟩
    · obtain ⟨its, rv, p', hz⟩ := I1.tuple hq
      refine enumCall1 (begins_tuple a its.toArray) (show s1.heap.IsTuple a its.toArray from p') fun h' he ho hk => wpAny_pyIter_enum he ?_
      have I2 : Inv X pins σ H1 { s1 with heap := h' } := I1.kept (t' := s1.toks) hk
      exact ⟨s1.heap.objs.size + 1, [s1.heap.objs.size + 1, s1.heap.objs.size], _, _, H1, rfl, I2, turnEnumT a (s1.heap.objs.size + 1) s1.heap.objs.size, ⟨⟨.none, he⟩, ⟨_, ho, rfl, rfl⟩, Nat.succ_ne_self _⟩, two, q⟩
theorem di_enum {a : Expr} {p tpos : Pos} {elts : List Expr} {kk : Nat} {m : M (List EV)} (hg : Gl X "enumerate") (hm : X.mg "enumerate" = none) (h : DA X C [a] m) (hs : starEach [a] X.env = [(false, eval a X.env)] := by rfl) :
    DI X C (.Tuple elts kk tpos) (.Call (.Name "enumerate" p) [a] [] pos) (m.bind mEnum) := by
  refine ⟨fun hK => ?_⟩
  obtain ⟨t, h1, s1⟩ := h.run hK
  refine ⟨_, pi_enumA hg hm h1 hs, fun σ F H l env g R Rl w => ?_⟩
  refine s1 σ F H l env g _ Rl (Wp.mono (Wp.bind.mp w) (fun evs env1 g1 w vs F1 H1 l1 R1 x1 r1 => ?_) fun _ _ _ _ w => w)
  unfold mEnum at w
  split at w
  · rename_i ds
    cases r1 with
    | cons r rr =>
      cases rr
      obtain ⟨a, vs, rfl, q, r⟩ := rep_list.mp (show Rep C.K F1 _ (.list ds) from r.1)
      exact ⟨a, rfl, .inl ⟨vs, SqL.of (R1.sub _ _ q), by rw [← hK]; exact w _ F1 H1 l1 R1 x1 (walks_enum q r)⟩⟩
  · rename_i ds
    cases r1 with
    | cons r rr =>
      cases rr
      obtain ⟨a, vs, rfl, q, r⟩ := rep_tup.mp (show Rep C.K F1 _ (.tuple ds) from r.1)
      exact ⟨a, rfl, .inr ⟨vs, by rw [← hK]; exact SqT.up R1.sub q, by rw [← hK]; exact w _ F1 H1 l1 R1 x1 (walks_enumT q r)⟩⟩
  · exact w.elim
/-- zip of two lists, of two tuples -/
def mZip : List EV → M (List PyData)
  | [.d (.list ds), .d (.list es)] => M.pure (zipped ds es)
  | [.d (.tuple ds), .d (.tuple es)] => M.pure (zipped ds es)
  | _ => M.bad
theorem di_zip {a b : Expr} {p tpos : Pos} {elts : List Expr} {kk : Nat} {m : M (List EV)} (hg : Gl X "zip") (hm : X.mg "zip" = none) (h : DA X C [a, b] m) (hs : starEach [a, b] X.env = (false, eval a X.env) :: starEach [b] X.env := by rfl) (hpl : (backTo pos (starEach [b] X.env)).any (·.1) = false := by rfl) :
    DI X C (.Tuple elts kk tpos) (.Call (.Name "zip" p) [a, b] [] pos) (m.bind mZip) := by
  refine ⟨fun hK => ?_⟩
  obtain ⟨t, h1, s1⟩ := h.run hK
  refine ⟨_, RZ.pi_zipA hg hm h1 hs hpl, fun σ F H l env g R Rl w => ?_⟩
  refine s1 σ F H l env g _ Rl (Wp.mono (Wp.bind.mp w) (fun evs env1 g1 w vs F1 H1 l1 R1 x1 r1 => ?_) fun _ _ _ _ w => w)
  unfold mZip at w
  split at w
  · rename_i ds es
    cases r1 with
    | cons r rr =>
      cases rr with
      | cons r' rr =>
        cases rr
        obtain ⟨a, vs, rfl, q, r⟩ := rep_list.mp (show Rep C.K F1 _ (.list ds) from r.1)
        obtain ⟨b, ws, rfl, q', r'⟩ := rep_list.mp (show Rep C.K F1 _ (.list es) from r'.1)
        exact ⟨a, b, vs, ws, rfl, .inl ⟨SqL.of (R1.sub _ _ q), SqL.of (R1.sub _ _ q'), by rw [← hK]; exact w _ F1 H1 l1 R1 x1 (walks_zip q r q' r')⟩⟩
  · rename_i ds es
    cases r1 with
    | cons r rr =>
      cases rr with
      | cons r' rr =>
        cases rr
        obtain ⟨a, vs, rfl, q, r⟩ := rep_tup.mp (show Rep C.K F1 _ (.tuple ds) from r.1)
        obtain ⟨b, ws, rfl, q', r'⟩ := rep_tup.mp (show Rep C.K F1 _ (.tuple es) from r'.1)
        exact ⟨a, b, vs, ws, rfl, .inr ⟨by rw [← hK]; exact SqT.up R1.sub q, by rw [← hK]; exact SqT.up R1.sub q', by rw [← hK]; exact w _ F1 H1 l1 R1 x1 (walks_zipT q r q' r')⟩⟩
  · exact w.elim
end
end DL
namespace DL
open PySem L2
/-! ### comprehensions -/
def wipeE (env : Env') : List Nat → Env'
  | [] => env
  | v :: vs => (wipeE env vs).set v .un
/-- the names of the block as they were ahead -/
def backE (e0 e : Env') : List Nat → Env'
  | [] => e
  | v :: vs => match e0[v]? with
    | some s => (backE e0 e vs).set v s
    | none => backE e0 e vs
def noOwn (e : Env') (vs : List Nat) : Bool := vs.all fun i => match e[i]? with
  | some (.own _) => false
  | _ => true
theorem wipeE_length (e : Env') : ∀ vs : List Nat, (wipeE e vs).length = e.length
  | [] => rfl
  | v :: vs => by simp [wipeE, wipeE_length e vs]
theorem wipeE_in {e : Env'} {i : Nat} {s : Slot} : ∀ {vs : List Nat}, (wipeE e vs)[i]? = some s → i ∈ vs → s = .un
  | v :: vs, h, hi => by
    rcases get_set_cases h with ⟨_, w⟩ | ⟨z, q⟩
    · exact w.symm
    · rcases List.mem_cons.mp hi with y | y
      · exact absurd y.symm z
      · exact wipeE_in q y
theorem wipeE_out {e : Env'} {i : Nat} : ∀ {vs : List Nat}, i ∉ vs → (wipeE e vs)[i]? = e[i]?
  | [], _ => rfl
  | v :: vs, h => by
    rw [List.mem_cons, not_or] at h
    rw [wipeE, get_set_ne (fun z => h.1 z.symm)]
    exact wipeE_out h.2
theorem wipe_out' {σ : L2.St} {i : Nat} : ∀ {vs : List Nat}, i ∉ vs → (wipe σ vs)[i]? = σ[i]?
  | [], _ => rfl
  | v :: vs, h => by
    rw [List.mem_cons, not_or] at h
    rw [wipe, get_set_ne (fun z => h.1 z.symm)]
    exact wipe_out' h.2
theorem wipeE_not {e : Env'} {i : Nat} {s : Slot} {vs : List Nat} (h : (wipeE e vs)[i]? = some s) (n : s ≠ .un) : i ∉ vs ∧ e[i]? = some s := by
  have hi : i ∉ vs := fun z => n (wipeE_in h z)
  exact ⟨hi, by rw [← wipeE_out hi]; exact h⟩
theorem Rel.wiped {C : DCx} {σ : L2.St} {F H : Hp} {l : Loc} {env : Env'} {g : G} (R : Rel C σ F H l env g) (vs : List Nat) : Rel C (wipe σ vs) F H l (wipeE env vs) g where
  sub := R.sub
  len := by rw [wipe_length, wipeE_length]; exact R.len
  dat := fun i x e => by
    obtain ⟨h1, h2⟩ := wipeE_not e (by nofun)
    rw [wipe_out' h1]
    exact R.dat i x h2
  own := fun i x e => by
    obtain ⟨h1, h2⟩ := wipeE_not e (by nofun)
    rw [wipe_out' h1]
    exact R.own i x h2
  inj := fun i j x y a e1 e2 h1 h2 => by
    obtain ⟨p1, q1⟩ := wipeE_not e1 (by nofun)
    obtain ⟨p2, q2⟩ := wipeE_not e2 (by nofun)
    rw [wipe_out' p1] at h1
    rw [wipe_out' p2] at h2
    exact R.inj i j x y a q1 q2 h1 h2
  iscr := fun i ns e => by
    obtain ⟨h1, h2⟩ := wipeE_not e (by nofun)
    rw [wipe_out' h1]
    exact R.iscr i ns h2
  isrc := fun i b e => by
    obtain ⟨h1, h2⟩ := wipeE_not e (by nofun)
    rw [wipe_out' h1]
    exact R.isrc i b h2
  src := R.src
  old := R.old
  oldd := R.oldd
  f0 := R.f0
  fo := R.fo
  lo := R.lo
  l0 := R.l0
theorem OwnAt.wiped {σ : L2.St} {env : Env'} {vs : List Nat} {a : Addr} (h : OwnAt (wipe σ vs) (wipeE env vs) a) : OwnAt σ env a := by
  obtain ⟨i, x, e, q⟩ := h
  obtain ⟨h1, h2⟩ := wipeE_not e (by nofun)
  rw [wipe_out' h1] at q
  exact ⟨i, x, h2, q⟩
theorem OwnAt.wipe {σ : L2.St} {env : Env'} {vs : List Nat} {a : Addr} (h : OwnAt σ env a) (n : noOwn env vs = true) : OwnAt (L2.wipe σ vs) (wipeE env vs) a := by
  obtain ⟨i, x, e, q⟩ := h
  have hi : i ∉ vs := fun z => by
    have := List.all_eq_true.mp n i z
    simp [e] at this
  exact ⟨i, x, by rw [wipeE_out hi]; exact e, by rw [wipe_out' hi]; exact q⟩
theorem backE_length (e0 e : Env') : ∀ vs : List Nat, (backE e0 e vs).length = e.length
  | [] => rfl
  | v :: vs => by
    unfold backE
    split
    · rw [List.length_set, backE_length e0 e vs]
    · exact backE_length e0 e vs
theorem backE_get {e0 e : Env'} {i : Nat} {s : Slot} : ∀ {vs : List Nat}, (backE e0 e vs)[i]? = some s → (i ∈ vs ∧ e0[i]? = some s) ∨ (e[i]? = some s ∧ (i ∉ vs ∨ e0[i]? = none))
  | [], h => .inr ⟨h, .inl (by simp)⟩
  | v :: vs, h => by
    unfold backE at h
    split at h
    · rename_i t q
      rcases get_set_cases h with ⟨z, w⟩ | ⟨z, h⟩
      · subst z; subst w; exact .inl ⟨by simp, q⟩
      · rcases backE_get h with ⟨h1, h2⟩ | ⟨h1, h2⟩
        · exact .inl ⟨by simp [h1], h2⟩
        · refine .inr ⟨h1, h2.elim (fun w => .inl ?_) .inr⟩
          rw [List.mem_cons, not_or]
          exact ⟨fun y => z y.symm, w⟩
    · rename_i q
      rcases backE_get h with ⟨h1, h2⟩ | ⟨h1, h2⟩
      · exact .inl ⟨by simp [h1], h2⟩
      · by_cases y : i = v
        · subst y; exact .inr ⟨h1, .inr q⟩
        · refine .inr ⟨h1, h2.elim (fun w => .inl ?_) .inr⟩
          rw [List.mem_cons, not_or]
          exact ⟨y, w⟩
/-- the end of a block -/
theorem Rel.back {C : DCx} {σ : L2.St} {F H F' H' : Hp} {l l' : Loc} {e0 e : Env'} {g g' : G} {vs : List Nat} (R0 : Rel C σ F H l e0 g) (n : noOwn e0 vs = true) (R : Rel C (wipe σ vs) F' H' l' e g') (x : ExtO (OwnAt σ e0) F H l F' H' l' (OwnAt (wipe σ vs) e)) :
    Rel C σ F' H' l' (backE e0 e vs) g' ∧ Ext σ F H l e0 F' H' l' (backE e0 e vs) := by
  have len0 : e0.length = e.length := by rw [← R0.len, ← R.len, wipe_length]
  have key : ∀ i s, (backE e0 e vs)[i]? = some s → (i ∈ vs ∧ e0[i]? = some s) ∨ (e[i]? = some s ∧ i ∉ vs) := fun i s h => by
    rcases backE_get h with q | ⟨q1, q2⟩
    · exact .inl q
    · refine .inr ⟨q1, q2.elim id fun w z => ?_⟩
      have := (List.getElem?_eq_some_iff.mp q1).1
      rw [List.getElem?_eq_none_iff] at w
      omega
  have own' : ∀ i y, (backE e0 e vs)[i]? = some (.own y) → e[i]? = some (.own y) ∧ i ∉ vs := fun i y h => by
    rcases key i _ h with ⟨h1, h2⟩ | q
    · have := List.all_eq_true.mp n i h1
      simp [h2] at this
    · exact q
  have oa : ∀ a, OwnAt σ (backE e0 e vs) a → OwnAt (wipe σ vs) e a := fun a ⟨i, y, h1, h2⟩ => by
    obtain ⟨q1, q2⟩ := own' i y h1
    exact ⟨i, y, q1, by rw [wipe_out' q2]; exact h2⟩
  refine ⟨⟨R.sub, by rw [backE_length, ← R.len, wipe_length], fun i y h => ?_, fun i y h => ?_, fun i j y z a h1 h2 g1 g2 => ?_, fun i ns h => ?_, fun i bb h => ?_, R.src, R.old, R.oldd, R.f0, R.fo, R.lo, R.l0⟩, x.conv (fun _ h => h) fun a h => x.ow a (oa a h)⟩
  · rcases key i _ h with ⟨h1, h2⟩ | ⟨h1, h2⟩
    · obtain ⟨v, e1, r⟩ := R0.dat i y h2
      exact ⟨v, e1, Rep.up x.fs _ _ r⟩
    · rw [← wipe_out' h2]; exact R.dat i y h1
  · obtain ⟨h1, h2⟩ := own' i y h
    rw [← wipe_out' h2]; exact R.own i y h1
  · obtain ⟨p1, q1⟩ := own' i y h1
    obtain ⟨p2, q2⟩ := own' j z h2
    exact R.inj i j y z a p1 p2 (by rw [wipe_out' q1]; exact g1) (by rw [wipe_out' q2]; exact g2)
  · rcases key i _ h with ⟨h1, h2⟩ | ⟨h1, h2⟩
    · obtain ⟨v, e1, r⟩ := R0.iscr i ns h2
      exact ⟨v, e1, x.fs.seq r⟩
    · rw [← wipe_out' h2]; exact R.iscr i ns h1
  · rcases key i _ h with ⟨h1, h2⟩ | ⟨h1, h2⟩
    · obtain ⟨d, c, e1, r⟩ := R0.isrc i _ h2
      exact ⟨d, c, x.ls _ e1, r⟩
    · rw [← wipe_out' h2]; exact R.isrc i _ h1
def loopC (p : Pat) (vs : List Nat) (mt : M Bool) (me : M PyData) : List PyData → List PyData → M (List PyData)
  | [], acc => M.pure acc
  | x :: xs, acc => fun e g => match asg p x e with
    | none => .bad
    | some e1 => (mt.bind fun b => if b then me.bind fun y => fun e2 g2 => if acc.length < sizeLine then loopC p vs mt me xs (acc ++ [y]) (wipeE e2 vs) g2 else .bad
        else fun e2 g2 => loopC p vs mt me xs acc (wipeE e2 vs) g2) e1 g
def blockOf {α : Type} (vs : List Nat) (m : M α) : M α := fun e g => if noOwn e vs then (match m (wipeE e vs) g with
    | .ok a e' g' => .ok a (backE e e' vs) g'
    | _ => .bad) else .bad
def mComp (p : Pat) (vs : List Nat) (mi : M (List PyData)) (mt : M Bool) (me : M PyData) : M EV :=
  mi.bind fun xs => (blockOf vs (loopC p vs mt me xs [])).bind fun ys => M.pure (.fr (.list ys))
def mYes : M Bool := M.pure true
structure DTs (X : Cx) (C : DCx) (es : List Expr) (m : M Bool) : Prop where
  run : C.K = X.K → ∃ t, PTs X es t ∧ SimT C t m
theorem dts_nil {X : Cx} {C : DCx} : DTs X C [] mYes := ⟨fun _ => ⟨_, pts_nil, fun σ F H l env g Q R w => w F H l R .refl⟩⟩
theorem dts_one {X : Cx} {C : DCx} {e : Expr} {m : M Bool} (h : DT X C e m) : DTs X C [e] m := ⟨fun hK => let ⟨t, h1, s⟩ := h.run hK; ⟨_, pts_one h1, s⟩⟩
/-- within a block nothing is raised -/
abbrev DCx.calm (C : DCx) : DCx := { C with W := fun _ _ _ _ => False }
theorem Rel.calm {C : DCx} {σ : L2.St} {F H : Hp} {l : Loc} {env : Env'} {g : G} (R : Rel C σ F H l env g) : Rel C.calm σ F H l env g :=
  ⟨R.sub, R.len, R.dat, R.own, R.inj, R.iscr, R.isrc, R.src, R.old, R.oldd, R.f0, R.fo, R.lo, R.l0⟩
theorem Rel.uncalm {C : DCx} {σ : L2.St} {F H : Hp} {l : Loc} {env : Env'} {g : G} (R : Rel C.calm σ F H l env g) : Rel C σ F H l env g :=
  ⟨R.sub, R.len, R.dat, R.own, R.inj, R.iscr, R.isrc, R.src, R.old, R.oldd, R.f0, R.fo, R.lo, R.l0⟩
/-- the list that is made: tracked, no one's own -/
structure Made (C : DCx) (F H : Hp) (l : Loc) (O : Addr → Prop) (D : Addr) (acc : List PyData) : Prop where
  at_ : ∃ vs, H D = some (.lst vs) ∧ RepL C.K F vs acc
  nf : F D = none
  n0 : C.H0 D = none
  ns : ¬ SrcAt l D
  no : ¬ O D
theorem Made.up {C : DCx} {F H F' H' : Hp} {l l' : Loc} {O O' : Addr → Prop} {D : Addr} {acc : List PyData} (m : Made C F H l O D acc) (x : ExtO O F H l F' H' l' O') : Made C F' H' l' O' D acc := by
  obtain ⟨vs, h1, h2⟩ := m.at_
  refine ⟨⟨vs, x.hk _ _ h1 m.no m.ns, RepL.up x.fs _ _ h2⟩, ?_, m.n0, fun z => ?_, fun z => m.no (x.ow _ z)⟩
  · refine Classical.byContradiction fun z => ?_
    rcases x.gr _ z with q | q | q
    · exact q m.nf
    · rw [h1] at q; cases q
    · exact m.no q
  · rcases x.ln _ z with q | q
    · exact m.ns q
    · rw [h1] at q; cases q
/-- an item more in it -/
theorem Rel.made {C : DCx} {σ : L2.St} {F H : Hp} {l : Loc} {env : Env'} {g : G} {D : Addr} {acc : List PyData} {vs : List V} {d : PyData} {v : V} (R : Rel C σ F H l env g) (m : Made C F H l (OwnAt σ env) D acc) (h : H D = some (.lst vs)) (rv : Rep C.K F v d) :
    Rel C σ F (upd H D (.lst (vs ++ [v]))) l env g ∧ Made C F (upd H D (.lst (vs ++ [v]))) l (OwnAt σ env) D (acc ++ [d]) ∧ ∀ {O : Addr → Prop} {F0 H0 : Hp} {l0 : Loc}, ExtO O F0 H0 l0 F H l (OwnAt σ env) → H0 D = none → ExtO O F0 H0 l0 F (upd H D (.lst (vs ++ [v]))) l (OwnAt σ env) := by
  obtain ⟨ws, h1, h2⟩ := m.at_
  rw [h] at h1
  cases h1
  have kp : ∀ b o, F b = some o → upd H D (.lst (vs ++ [v])) b = some o := fun b o e => by
    rw [upd_ne (ne_of_none e m.nf)]; exact R.sub _ _ e
  have nsrc : ∀ p, l = some p → p.1 ≠ D ∧ p.2 ≠ D := fun p e => ⟨fun z => m.ns ⟨p, e, .inl z.symm⟩, fun z => m.ns ⟨p, e, .inr z.symm⟩⟩
  refine ⟨⟨kp, R.len, R.dat, fun i x e => ?_, R.inj, R.iscr, R.isrc, ?_, fun a o e ns => ?_, fun a e => ?_, R.f0, R.fo, R.lo, R.l0⟩, ⟨⟨_, upd_same, h2.append (repL_cons.mpr ⟨_, _, rfl, rv, repL_nil.mpr rfl⟩)⟩, m.nf, m.n0, m.ns, m.no⟩, fun {O F0 H0 l0} x hn => ⟨x.fs, fun a e => ?_, fun a o e n1 n2 => ?_, x.gr, x.ow, x.ls, x.ln⟩⟩
  · obtain ⟨a, q1, q2, q3, q4, q5⟩ := R.own i x e
    have ha : a ≠ D := fun z => m.no ⟨i, x, e, by rw [← z]; exact q1⟩
    exact ⟨a, q1, q2.up (.refl _) fun o q => by rw [upd_ne ha]; exact q, q3, q4, q5⟩
  · have q := R.src
    cases l with
    | none => cases g with
      | none => trivial
      | some s => exact q.elim
    | some p => cases g with
      | none => exact q.elim
      | some s =>
        obtain ⟨g1, g2, g3, g4, g5⟩ := q
        obtain ⟨n1, n2⟩ := nsrc p rfl
        exact ⟨g1, by rw [upd_ne n1]; exact g2, by rw [upd_ne n2]; exact g3, g4, g5⟩
  · have ha : a ≠ D := fun z => by rw [z, m.n0] at e; cases e
    rw [upd_ne ha]; exact R.old a o e ns
  · by_cases ha : a = D
    · subst ha; rw [upd_same]; nofun
    · rw [upd_ne ha]; exact R.oldd a e
  · by_cases ha : a = D
    · subst ha; rw [upd_same]; nofun
    · rw [upd_ne ha]; exact x.hd a e
  · have ha : a ≠ D := fun z => by rw [z, hn] at e; cases e
    rw [upd_ne ha]; exact x.hk a o e n1 n2
theorem blockOf_wp {α : Type} {vs : List Nat} {m : M α} {e : Env'} {g : G} {K : α → Env' → G → Prop} {E : Str → PyData → Env' → G → Prop} (h : Wp (blockOf vs m e g) K E) : noOwn e vs = true ∧ Wp (m (wipeE e vs) g) (fun a e' g' => K a (backE e e' vs) g') (fun _ _ _ _ => False) := by
  unfold blockOf at h
  by_cases c : noOwn e vs = true
  · rw [if_pos c] at h
    refine ⟨c, ?_⟩
    cases q : m (wipeE e vs) g with
    | ok a e' g' => rw [q] at h; exact h
    | exc _ _ _ _ => rw [q] at h; exact h.elim
    | bad => rw [q] at h; exact h.elim
  · rw [if_neg c] at h
    exact h.elim
theorem wipe_in {σ : L2.St} {i : Nat} : ∀ {vs : List Nat}, i ∈ vs → i < σ.length → (wipe σ vs)[i]? = some none
  | v :: vs, h, hl => by
    by_cases e : v = i
    · subst e
      rw [wipe, List.getElem?_set_self (by rw [wipe_length]; exact hl)]
    · rw [wipe, get_set_ne e]
      rcases List.mem_cons.mp h with q | q
      · exact absurd q.symm e
      · exact wipe_in q hl
theorem wipe_off {σ σ2 : L2.St} {is vs : List Nat} (h : Off is (wipe σ vs) σ2) (hs : ∀ i ∈ is, i ∈ vs) : wipe σ2 vs = wipe σ vs := by
  refine List.ext_getElem? fun i => ?_
  by_cases hi : i ∈ vs
  · by_cases hl : i < σ.length
    · rw [wipe_in hi hl, wipe_in hi (by rw [h.1, wipe_length]; exact hl)]
    · rw [List.getElem?_eq_none (by rw [wipe_length, h.1, wipe_length]; omega), List.getElem?_eq_none (by rw [wipe_length]; omega)]
  · rw [wipe_out' hi, h.2 i fun z => hi (hs i z)]
theorem drop_get {α : Type} {xs : List α} {i : Nat} {d : α} (h : xs[i]? = some d) : xs.drop i = d :: xs.drop (i + 1) := by
  obtain ⟨h1, h2⟩ := List.getElem?_eq_some_iff.mp h
  rw [List.drop_eq_getElem_cons h1, h2]
theorem wp_iteR {α : Type} {c : Prop} [Decidable c] {r : R α} {K : α → Env' → G → Prop} {E : Str → PyData → Env' → G → Prop} (h : Wp (if c then r else .bad) K E) : c ∧ Wp r K E := by
  by_cases q : c
  · rw [if_pos q] at h; exact ⟨q, h⟩
  · rw [if_neg q] at h; exact h.elim
theorem ExtO.shrink {O O' : Addr → Prop} {F H : Hp} {l : Loc} (h : ∀ a, O' a → O a) : ExtO O F H l F H l O' :=
  ⟨fun _ _ e => e, fun _ e => e, fun _ _ e _ _ => e, fun _ e => .inl e, h, fun _ e => e, fun _ e => .inl e⟩
theorem simComp {C : DCx} {wi : TI} {g : TG} {tt : TT} {te : TE} {p : Pat} {vs : List Nat} {mi : M (List PyData)} {mt : M Bool} {me : M PyData} (hi : SimI C wi mi) (hg : SimG C.calm g p) (ht : SimT C.calm tt mt) (he : SimD C.calm te me) (hp : ∀ i ∈ p.idx, i ∈ vs) :
    SimE C (tLc wi g tt te vs) (mComp p vs mi mt me) := by
  intro σ F H l env gs Q Rl w
  refine hi σ F H l env gs _ Rl (Wp.mono (Wp.bind.mp w) (fun xs env1 g1 w J F1 H1 l1 R1 x1 W1 => ?_) fun _ _ _ _ w => w)
  intro D hD
  obtain ⟨no, w⟩ := blockOf_wp (Wp.bind.mp w)
  have nF : F1 D = none := none_sub R1.sub hD
  have n0 : C.H0 D = none := none_of_none R1.oldd hD
  have nS : ¬ SrcAt l1 D := fun z => by
    obtain ⟨o, ho⟩ := R1.src.srcH z
    rw [hD] at ho; cases ho
  have nO : ¬ OwnAt σ env1 D := fun z => by
    obtain ⟨_, _, _, o, ho⟩ := R1.ownF z
    rw [hD] at ho; cases ho
  have nw : New C.K F1 H1 F1 (upd H1 D (.lst [])) (V.ref D) (.fr (.list [])) :=
    ⟨.refl _, Same.upd hD, R1.sub.trans (Same.upd hD), fun _ e => .inl e, D, rfl, hD, nF, [], upd_same, repL_nil.mpr rfl⟩
  obtain ⟨R2, x2, _⟩ := R1.new nw
  let N : Nat → Hp → Prop := fun i H' => ∃ (F' : Hp) (l' : Loc) (e' : Env') (g' : G) (acc : List PyData), Rel C.calm (wipe σ vs) F' H' l' e' g' ∧ ExtO (OwnAt σ env1) F1 H1 l1 F' H' l' (OwnAt (wipe σ vs) e') ∧ Made C.calm F' H' l' (OwnAt (wipe σ vs) e') D acc ∧
    Wp (loopC p vs mt me (xs.drop i) acc e' g') (fun ys e'' g'' => KE C σ F H l env Q (.fr (.list ys)) (backE env1 e'' vs) g'') (fun _ _ _ _ => False)
  refine ⟨fun i m H' => m = xs.length - i ∧ i ≤ xs.length ∧ N i H', ⟨_, rfl, Nat.zero_le _, F1, l1, wipeE env1 vs, g1, [], (R2.wiped vs).calm, x2.conv (fun _ h => h) fun a h => h.wiped, ⟨⟨[], upd_same, repL_nil.mpr rfl⟩, nF, n0, nS, fun z => nO z.wiped⟩, w⟩, ?_⟩
  rintro i m H' ⟨rfl, hle, F', l', e', g', acc, R', x', mk, w⟩
  by_cases hlt : i < xs.length
  · refine .inr ⟨W1.go F' H' i x'.fs R'.sub hlt, fun H2 => N (i + 1) H2, fun H2 q => ⟨_, by omega, rfl, hlt, q⟩, fun x H2 y => ?_⟩
    obtain ⟨F2, d, hd, nw2⟩ := W1.yl F' H' i x H2 x'.fs R'.sub hlt y
    obtain ⟨R3, x3, r3⟩ := R'.new nw2
    rw [drop_get hd] at w
    replace w : Wp (match asg p d e' with
      | none => R.bad
      | some e1 => (mt.bind fun b => if b then me.bind fun y => fun e2 g2 => if acc.length < sizeLine then loopC p vs mt me (xs.drop (i + 1)) (acc ++ [y]) (wipeE e2 vs) g2 else .bad
          else fun e2 g2 => loopC p vs mt me (xs.drop (i + 1)) acc (wipeE e2 vs) g2) e1 g') _ _ := w
    cases ha : asg p d e' with
    | none => rw [ha] at w; exact w.elim
    | some e1 =>
      rw [ha] at w
      refine hg (wipe σ vs) F2 H2 l' e' e1 g' x d _ R3 r3 ha fun σ2 R4 off ow => ?_
      have hw := wipe_off off hp
      refine ⟨hw, ?_⟩
      have x4 : ExtO (OwnAt σ env1) F1 H1 l1 F2 H2 l' (OwnAt σ2 e1) := ExtO.trans (ExtO.trans x' x3) (ExtO.shrink ow)
      have mk4 : Made C.calm F2 H2 l' (OwnAt σ2 e1) D acc := mk.up (ExtO.trans x3 (ExtO.shrink ow))
      refine ht σ2 F2 H2 l' e1 g' _ R4 (Wp.mono (Wp.bind.mp w) (fun b e2 g2 w F3 H3 l3 R5 x5 => ?_) fun _ _ _ _ w => w.elim)
      have mk5 := mk4.up x5
      cases b with
      | false =>
        dsimp only at w ⊢
        rw [if_neg Bool.false_ne_true] at w ⊢
        exact ⟨F3, l3, wipeE e2 vs, g2, acc, by rw [← hw]; exact R5.wiped vs, by rw [← hw]; exact (x4.trans x5).conv (fun _ h => h) fun a h => (x4.trans x5).ow a h.wiped, ⟨mk5.at_, mk5.nf, mk5.n0, mk5.ns, fun z => mk5.no (by rw [← hw] at z; exact z.wiped)⟩, w⟩
      | true =>
        dsimp only at w ⊢
        rw [if_pos rfl] at w ⊢
        refine he σ2 F3 H3 l3 e2 g2 _ R5 (Wp.mono (Wp.bind.mp w) (fun y e3 g3 w v F4 H4 l4 R6 x6 rv => ?_) fun _ _ _ _ w => w.elim)
        have mk6 := mk5.up x6
        obtain ⟨ws, hD4, rl⟩ := mk6.at_
        have hz := wp_iteR w
        obtain ⟨R7, mk7, x7⟩ := R6.made mk6 hD4 rv
        have x8 := x7 (ExtO.trans x4 (ExtO.trans x5 x6)) hD
        refine ⟨ws, hD4, by rw [rl.length]; exact hz.1, F4, l4, wipeE e3 vs, g3, acc ++ [y], by rw [← hw]; exact R7.wiped vs, by rw [← hw]; exact x8.conv (fun _ h => h) fun a h => x8.ow a h.wiped, ⟨mk7.at_, mk7.nf, mk7.n0, mk7.ns, fun z => mk7.no (by rw [← hw] at z; exact z.wiped)⟩, hz.2⟩
  · have e : i = xs.length := by omega
    subst e
    refine .inl ⟨W1.st F' H' x'.fs R'.sub, ?_⟩
    rw [List.drop_length] at w
    obtain ⟨R9, x9⟩ := R1.back no R'.uncalm x'
    obtain ⟨ws, hD4, rl⟩ := mk.at_
    refine w (V.ref D) F' H' l' R9 (ExtO.trans x1 x9) ⟨D, rfl, ⟨ws, hD4, rl⟩, mk.nf, mk.n0, mk.ns, fun z => nO (x9.ow _ z)⟩ fun a e => ?_
    cases e
    exact none_of_none x1.hd hD
/-! the readings that the data tell by themselves: no context stands in them -/
def tOf (C : DCx) (m : M EV) : TE := fun σ H Q => ∃ F l env g, Rel C σ F H l env g ∧ Wp (m env g) (KE C σ F H l env Q) (KX C σ)
def tdOf (C : DCx) (m : M PyData) : TE := fun σ H Q => ∃ F l env g, Rel C σ F H l env g ∧ Wp (m env g) (KD C σ F H l env Q) (KX C σ)
def ttOf (C : DCx) (m : M Bool) : TT := fun σ H Q => ∃ F l env g, Rel C σ F H l env g ∧ Wp (m env g) (KT C σ F H l env Q) (KX C σ)
def gOf (C : DCx) (p : Pat) : TG := fun v σ H Q => ∃ F l env env' gs d, Rel C σ F H l env gs ∧ Rep C.K F v d ∧ asg p d env = some env' ∧ ∀ σ', Rel C σ' F H l env' gs → Off p.idx σ σ' → (∀ a, OwnAt σ' env' a → OwnAt σ env a) → Q σ' H
section
variable {X : Cx} {C : DCx} {e tg : Expr} {es : List Expr}
theorem DE.pe {m : M EV} (h : DE X C e m) (hK : C.K = X.K) : PE X e (tOf C m) := by
  obtain ⟨t, h1, s⟩ := h.run hK
  exact ⟨fun pins s1 σ H Q I ⟨F, l, env, g, R, w⟩ => h1.run pins s1 σ H Q I (s σ F H l env g Q R w)⟩
theorem DD.pe {m : M PyData} (h : DD X C e m) (hK : C.K = X.K) : PE X e (tdOf C m) := by
  obtain ⟨t, h1, s⟩ := h.run hK
  exact ⟨fun pins s1 σ H Q I ⟨F, l, env, g, R, w⟩ => h1.run pins s1 σ H Q I (s σ F H l env g Q R w)⟩
theorem DTs.pt {m : M Bool} (h : DTs X C es m) (hK : C.K = X.K) : PTs X es (ttOf C m) := by
  obtain ⟨t, h1, s⟩ := h.run hK
  exact ⟨fun pins s1 σ H Q I ⟨F, l, env, g, R, w⟩ => h1.run pins s1 σ H Q I (s σ F H l env g Q R w)⟩
theorem DG.pg {p : Pat} (h : DG X C tg p) (hK : C.K = X.K) : PG X tg (gOf C p) := by
  obtain ⟨t, h1, s⟩ := h.run hK
  exact ⟨fun pins s1 σ H v u Q I r ⟨F, l, env, env', gs, d, R, rd, ha, q⟩ => h1.run pins s1 σ H v u Q I r (s σ F H l env env' gs v d Q R rd ha q)⟩
theorem simG_of {p : Pat} : SimG C (gOf C p) p := fun _ _ _ _ _ _ _ _ _ _ R r a q => ⟨_, _, _, _, _, _, R, r, a, q⟩
theorem simT_of {m : M Bool} : SimT C (ttOf C m) m := fun _ _ _ _ _ _ _ R w => ⟨_, _, _, _, R, w⟩
theorem simD_of {m : M PyData} : SimD C (tdOf C m) m := fun _ _ _ _ _ _ _ R w => ⟨_, _, _, _, R, w⟩
theorem simE_of {m : M EV} : SimE C (tOf C m) m := fun _ _ _ _ _ _ _ R w => ⟨_, _, _, _, R, w⟩
end
theorem de_comp {X : Cx} {C : DCx} {elt tg iter : Expr} {ifs : List Expr} {scope : Scope} {own : List (Str × Nat)} {pos : Pos} {p : Pat} {mi : M (List PyData)} {mt : M Bool} {me : M PyData} (hc : X.calm = true) (hN : X.N.Nodup) (hi : DI X C tg iter mi) (ok : BlkOk X.N X.env.scope scope own)
    (hg : ∀ (s : Shared) (H : Hp) (A : Addr) (cl : List (Str × Addr)) (fp : List Addr), DG (X.blk s H scope (compEnvC scope cl A X.env) fp) C.calm tg p)
    (ht : ∀ (s : Shared) (H : Hp) (A : Addr) (cl : List (Str × Addr)) (fp : List Addr), DTs (X.blk s H scope (compEnvC scope cl A X.env) fp) C.calm ifs mt)
    (he : ∀ (s : Shared) (H : Hp) (A : Addr) (cl : List (Str × Addr)) (fp : List Addr), DD (X.blk s H scope (compEnvC scope cl A X.env) fp) C.calm elt me)
    (hp : (p.idx.all fun i => decide (i ∈ own.map (·.2))) = true) (hs : ∀ x, foldedSetIterable iter X.env x = pure x := by intro _; rfl) :
    DE X C (.ListComp elt [⟨tg, iter, ifs, 0⟩] scope pos) (mComp p (own.map (·.2)) mi mt me) := by
  refine ⟨fun hK => ?_⟩
  obtain ⟨wi, h1, s1⟩ := hi.run hK
  refine ⟨_, pe_lc hc hN h1 ok (fun s H A cl fp => (hg s H A cl fp).pg hK) (fun s H A cl fp => (ht s H A cl fp).pt hK) (fun s H A cl fp => (he s H A cl fp).pe hK) hs, simComp s1 simG_of simT_of simD_of fun i hi => ?_⟩
  exact of_decide_eq_true (List.all_eq_true.mp hp i hi)
end DL
namespace DL
open PySem L2
/-! ### sorted of a list or a tuple of data -/
section
open PySem.W PyProof.Rows
variable {prog : Program} {w : World} {A : Around} {E : Value → Shared → Prop} {s : Shared}
/-- a tuple's items, collected -/
theorem collectTuple {l : Addr} {vs : List Value} {Q : List Value → Shared → Prop} (ht : s.heap.IsTuple l vs.toArray) (hz : vs.length ≤ sizeLine)
    (h : Q vs { s with heap := (s.heap.push (seqObj "list" #[] 0)).update s.heap.objs.size (Obj.mapSeq (· ++ vs.toArray)) }) : wpAny (model prog w) A (collect (.ref l)) Q E s := by
  obtain ⟨o, ho, hc, n, hd⟩ := id ht
  have hn : (s.heap.push (seqObj "list" #[] 0)).get? s.heap.objs.size = some (seqObj "list" #[] 0) := Heap.get?_push_size _ rfl
  have ho' : (s.heap.push (seqObj "list" #[] 0)).get? l = some o := Heap.get?_push_of_some _ ho
  unfold collect
  refine wpAny_bind (wpAny_runValue (codeAny_builtin entry_proto_collect' ?_))
  change wpAny _ _ (do again (.builtin "list.__iadd__" ⟨[← newList [], .ref l], []⟩)) _ _ s
  refine wpAny_bind (wpAny_newList (wpAny_pure ⟨Code.quiet_builtin _ (by decide +kernel), codeAny_builtin entry_list_iadd' ?_⟩))
  change wpAny _ _ (Builtin.List.listExtendWith (.ref s.heap.objs.size) (.ref l) (.ref s.heap.objs.size)) _ _ { s with heap := s.heap.push (seqObj "list" #[] 0) }
  unfold Builtin.List.listExtendWith
  refine wpAny_bind (wpAny_typeOf (T := "tuple") ⟨o, ho', hc⟩ ?_)
  rw [if_pos (by simp)]
  refine wpAny_bind (listItems_at ho' hd ?_)
  refine wpAny_bind (listItems_at (xs := #[]) (n := 0) hn rfl ?_)
  rw [if_neg (by simp)]
  refine wpAny_bind (listUpdate_at (xs := #[]) (n := 0) hn rfl ?_ (Nat.zero_le _) (by show (#[] ++ vs.toArray).size ≤ sizeLine + 1; simp only [Array.size_append, List.size_toArray, List.length_nil]; omega))
  refine wpAny_pure ?_
  change wpAny (model prog w) A (do
      let o ← load s.heap.objs.size
      match o.data with
      | .seq xs _ => pure xs.toList
      | _ => unsupported "internal:collect") Q E { s with heap := (s.heap.push (seqObj "list" #[] 0)).update s.heap.objs.size (Obj.mapSeq (· ++ vs.toArray)) }
  refine wpAny_bind (wpAny_load (get?_update_seq hn _) ?_)
  change wpAny _ _ (pure ((#[] : Array Value) ++ vs.toArray).toList) Q E _
  rw [show ((#[] : Array Value) ++ vs.toArray).toList = vs by simp]
  exact wpAny_pure h
theorem sortedCol {κ : PyProof.Rows.KeyKind} {l : Addr} {vs : List Value} {Q : Value → Shared → Prop} (hz : vs.length ≤ sizeLine)
    (hcol : ∀ (A' : Around) (E' : Value → Shared → Prop) (Q' : List Value → Shared → Prop), Q' vs { s with heap := (s.heap.push (seqObj "list" #[] 0)).update s.heap.objs.size (Obj.mapSeq (· ++ vs.toArray)) } → wpAny (model prog w) A' (collect (.ref l)) Q' E' s)
    (S : SortsAt prog w A.in1.in1 { s with heap := sortingHeap (copyHeap s.heap vs) (s.heap.objs.size + 1) vs } κ vs) (h : Q (.ref (s.heap.objs.size + 1)) { s with heap := sortedAll s.heap vs (sortVals κ false vs vs).toArray }) :
    wpAny (model prog w) A (call (.builtin "sorted") [.ref l]) Q E s := by
  refine call_function_entry_kw kind_sorted plain_sorted entry_sorted (args_sorted1 _) ?_
  unfold Builtin.«sorted»
  refine wpAny_bind (m := checkCount "sorted" 1 1 _) (wpAny_pure ?_)
  refine wpAny_bind (hcol _ _ _ ?_)
  refine wpAny_bind (wpAny_newList ?_ hz)
  have sz : ((s.heap.push (seqObj "list" #[] 0)).update s.heap.objs.size (Obj.mapSeq (· ++ vs.toArray))).objs.size = s.heap.objs.size + 1 := by
    rw [Heap.size_update, size_push']
  change wpAny _ _ _ _ _ { s with heap := copyHeap s.heap vs }
  rw [sz]
  refine wpAny_bind (wpAny_holding (wpAny_call_entry_kw slot_list_sort ⟨_, copyHeap_at s.heap vs, rfl⟩ entry_list_sort ?body (args_list_sort _)))
  case body =>
    change wpAny (model prog w) A.in1.in1 (Builtin.«list.sort» ⟨[.ref (s.heap.objs.size + 1)], []⟩) _ _ _
    refine list_sort_vals (s := { s with heap := copyHeap s.heap vs }) (copyHeap_at s.heap vs) S hz ?_
    exact ⟨_, rfl, wpAny_pure ⟨_, rfl, h⟩⟩
end
def sortD (ds : List PyData) : List PyData := ds.mergeSort (PySem.W.dataLe false id)
def isTup1 : PyData → Bool
  | .tuple (_ :: _) => true
  | _ => false
def plainKey : PyData → Bool
  | .none => false
  | .tuple _ => false
  | _ => true
def sortOk (ds : List PyData) : Bool := (ds.all fun d => ds.all fun d' => PySem.W.alike d d') && (ds.all isTup1 || ds.all plainKey) && ds.all fun d => decide (d.depth ≤ 50)
theorem sortOk.alike {ds : List PyData} (h : sortOk ds = true) : PySem.W.AllAlike ds := by
  unfold sortOk at h
  rw [Bool.and_eq_true, Bool.and_eq_true] at h
  intro d hd d' hd'
  exact List.all_eq_true.mp (List.all_eq_true.mp h.1.1 d hd) d' hd'
theorem sortOk.sortable {ds : List PyData} (h : sortOk ds = true) : PySem.W.Sortable ds := by
  unfold sortOk at h
  rw [Bool.and_eq_true, Bool.and_eq_true, Bool.or_eq_true] at h
  rcases h.1.2 with q | q
  · refine .inl fun d hd => ?_
    have := List.all_eq_true.mp q d hd
    unfold isTup1 at this
    split at this
    · exact ⟨_, _, rfl⟩
    · cases this
  · refine .inr fun d hd => ?_
    have := List.all_eq_true.mp q d hd
    unfold plainKey at this
    split at this
    · cases this
    · cases this
    · rename_i h1 h2
      exact ⟨h1, h2⟩
theorem sortOk.depth {ds : List PyData} (h : sortOk ds = true) : ∀ d ∈ ds, d.depth ≤ 50 := by
  unfold sortOk at h
  rw [Bool.and_eq_true, Bool.and_eq_true] at h
  exact fun d hd => of_decide_eq_true (List.all_eq_true.mp h.2 d hd)
theorem repL_zip {K : PySem.W.Frag} {F : Hp} {zs : List (V × PyData)} (h : ∀ z ∈ zs, Rep K F z.1 z.2) : RepL K F (zs.map (·.1)) (zs.map (·.2)) := by
  induction zs with
  | nil => exact repL_nil.mpr rfl
  | cons z zs ih => exact repL_cons.mpr ⟨_, _, rfl, h z (by simp), ih fun y hy => h y (by simp [hy])⟩
theorem each_vals {zs : List (V × PyData)} : ∀ {us : List Value}, PySem.W.EachIs (fun u (z : V × PyData) => RelV z.1 u) us zs → Vals (zs.map (·.1)) us := by
  induction zs with
  | nil => intro us h; cases h; exact .nil
  | cons z zs ih =>
    intro us h
    cases h with
    | cons h1 h2 => exact .cons h1 (ih h2)
theorem vals_each {zs : List (V × PyData)} : ∀ {us : List Value}, Vals (zs.map (·.1)) us → PySem.W.EachIs (fun u (z : V × PyData) => RelV z.1 u) us zs := by
  induction zs with
  | nil => intro us h; cases h; exact .nil
  | cons z zs ih =>
    intro us h
    cases h with
    | cons h1 h2 => exact .cons h1 (ih h2)
theorem each_and {α β : Type} {P Q : α → β → Prop} : ∀ {as : List α} {bs : List β}, PySem.W.EachIs P as bs → (∀ a b, a ∈ as → b ∈ bs → P a b → Q a b) → PySem.W.EachIs Q as bs
  | _, _, .nil, _ => .nil
  | _, _, .cons h t, f => .cons (f _ _ (by simp) (by simp) h) (each_and t fun a b ha hb => f a b (by simp [ha]) (by simp [hb]))
def pySorted : List PyData → Option RV
  | [.list ds] => if sortOk ds then some (.fr (.list (sortD ds))) else none
  | [.tuple ds] => if sortOk ds then some (.fr (.list (sortD ds))) else none
  | _ => none
section
variable {X : Cx}
theorem sorted_core {pins : List (Addr × Obj)} {s : Shared} {σ : L2.St} {F H : Hp} {Q : VK} {l : Addr} {its : List Value} {vs : List V} {ds : List PyData} (hu : X.A.units + 64 < cLine) (I : Inv X pins σ H s) (hs : Same F H) (rv : Vals vs its) (rl : RepL X.K F vs ds)
    (hz : vs.length ≤ sizeLine) (ok : sortOk ds = true)
    (hcol : ∀ (A' : Around) (E' : Value → Shared → Prop) (Q' : List Value → Shared → Prop), Q' its { s with heap := (s.heap.push (PyProof.Rows.seqObj "list" #[] 0)).update s.heap.objs.size (Obj.mapSeq (· ++ its.toArray)) } → wpAny (model X.prog X.w) A' (collect (.ref l)) Q' E' s)
    (hq : ResK X.K F H Q (.fr (.list (sortD ds)))) : wpAny (model X.prog X.w) X.A (call (.builtin "sorted") [.ref l]) (EP X pins σ Q) X.xe s := by
  have hl := rl.length
  have hzip : ∀ z ∈ vs.zip ds, Rep X.K F z.1 z.2 := by
    clear rv hz hcol hq ok I hs
    induction ds generalizing vs with
    | nil => intro z hz; simp at hz
    | cons d ds ih =>
      obtain ⟨v, r, rfl, r1, r2⟩ := repL_cons.mp rl
      intro z hz
      rw [List.zip_cons_cons] at hz
      rcases List.mem_cons.mp hz with q | q
      · subst q; exact r1
      · exact ih r2 (by simpa using hl) z q
  have e1 : (vs.zip ds).map (·.1) = vs := List.map_fst_zip (Nat.le_of_eq hl)
  have e2 : (vs.zip ds).map (·.2) = ds := List.map_snd_zip (Nat.le_of_eq hl.symm)
  have each : PySem.W.EachIs (fun u (z : V × PyData) => RelV z.1 u ∧ Rep X.K F z.1 z.2) its (vs.zip ds) := each_and (vals_each (by rw [e1]; exact rv)) fun a b _ hb h => ⟨h, hzip b hb⟩
  have er : PySem.W.EachIs (fun u (z : V × PyData) => ∃ as, Reads s.heap u z.2 as) its (vs.zip ds) := each.mono fun u z h => Rep.reads I hs z.2 z.1 u h.2 h.1
  have er' : PySem.W.EachIs (fun v (b : V × PyData) => ∃ as, Reads (PySem.W.sortingHeap (PySem.W.copyHeap s.heap its) (s.heap.objs.size + 1) its) v b.2 as) its (vs.zip ds) := er.mono fun _ _ ⟨as, r⟩ => ⟨as, PyProof.Rows.Reads.keeps (fun _ _ => PySem.W.sorting_copy_old) r⟩
  refine sortedCol (by rw [← rv.length]; exact hz) hcol (PySem.W.SortsAt.data (s := { s with heap := PySem.W.sortingHeap (PySem.W.copyHeap s.heap its) (s.heap.objs.size + 1) its }) (ds := ds) ?_ (sortOk.alike ok) (sortOk.sortable ok) fun d hd => ?_) ?_
  · have := PySem.W.each_map (R := fun v d => ∃ as, Reads (PySem.W.sortingHeap (PySem.W.copyHeap s.heap its) (s.heap.objs.size + 1) its) v d as) (fun z : V × PyData => z.2) er'
    rw [e2] at this
    exact this
  · have := sortOk.depth ok d hd
    show X.A.in1.in1.units + d.depth < cLine
    show X.A.units + 1 + 1 + d.depth < cLine
    omega
  · have hd := PySem.W.sortVals_data (h' := PySem.W.sortingHeap (PySem.W.copyHeap s.heap its) (s.heap.objs.size + 1) its) (enc := fun z : V × PyData => z.2) false each er' (by rw [e2]; exact (sortOk.alike ok))
    rw [e2] at hd
    have hm : ((vs.zip ds).mergeSort (PySem.W.dataLe false fun z : V × PyData => z.2)).map (·.2) = sortD ds := by
      have := PySem.W.sort_maps (r := PySem.W.dataLe false fun z : V × PyData => z.2) (s := PySem.W.dataLe false (id : PyData → PyData)) (fun z : V × PyData => z.2) (l := vs.zip ds) fun a _ b _ => rfl
      rw [this, e2]
      rfl
    obtain ⟨ep, he⟩ := PyProof.Rows.sortedAll_at s.heap its (PySem.W.sortVals (PySem.W.dataKind (PySem.W.sortingHeap (PySem.W.copyHeap s.heap its) (s.heap.objs.size + 1) its) ds) false its its).toArray
    have hv : Vals (((vs.zip ds).mergeSort (PySem.W.dataLe false fun z : V × PyData => z.2)).map (·.1)) (PySem.W.sortVals (PySem.W.dataKind (PySem.W.sortingHeap (PySem.W.copyHeap s.heap its) (s.heap.objs.size + 1) its) ds) false its its) := each_vals (hd.mono fun _ _ h => h.1)
    have hr : RepL X.K F (((vs.zip ds).mergeSort (PySem.W.dataLe false fun z : V × PyData => z.2)).map (·.1)) (sortD ds) := by
      rw [← hm]
      exact repL_zip fun z hz => hzip z ((List.mergeSort_perm _ _).mem_iff.mp hz)
    have hlen : (((vs.zip ds).mergeSort (PySem.W.dataLe false fun z : V × PyData => z.2)).map (·.1)).length ≤ sizeLine := by
      rw [List.length_map, (List.mergeSort_perm _ _).length_eq, List.length_zip, hl, Nat.min_self, ← hl]
      exact hz
    exact ⟨.ref _, upd H (s.heap.objs.size + 1) (.lst _), I.laid (t' := s.toks) (fun _ _ => PyProof.Rows.sortedAll_old) (Nat.le_succ _) ⟨hlen, _, ep, hv, he⟩, rfl, hq.lst hs (I.hok.fresh (Nat.le_succ _)) hr⟩
theorem calld_sorted (hu : X.A.units + 64 < cLine) : CallD X (.builtin "sorted") pySorted := by
  refine calld_of ?_
  intro pins s σ H xs us Q I r h
  obtain ⟨F, ds, ev, hs, hb, hg, hq⟩ := h
  unfold pySorted at hg
  split at hg
  · rename_i es
    obtain ⟨ok, rfl⟩ := if_some hg
    cases hb with
    | cons b1 b2 =>
      cases b2
      obtain ⟨a, vs, rfl, q, rl⟩ := b1.seq hs
      rw [Vals.ref1 r]
      obtain ⟨its, rv, p, hz⟩ := I.list (SqL.of q)
      exact sorted_core hu I hs rv rl hz ok (fun A' E' Q' h => PyProof.Rows.collect_list p.isList h (by rw [← rv.length]; exact hz)) hq
  · rename_i es
    obtain ⟨ok, rfl⟩ := if_some hg
    cases hb with
    | cons b1 b2 =>
      cases b2
      obtain ⟨a, vs, rfl, q, rl⟩ := b1.tup hs
      rw [Vals.ref1 r]
      obtain ⟨its, rv, p, hz⟩ := I.tuple q
      exact sorted_core hu I hs rv rl hz ok (fun A' E' Q' h => collectTuple (show s.heap.IsTuple a its.toArray from p) (by rw [← rv.length]; exact hz) h) hq
  · cases hg
end
end DL
namespace DL
open PySem L2
/-! ### built-ins by data -/
def oneI (i : Int) : RV := .d (.int i)
def pyLen : List PyData → Option RV
  | [.list ds] => some (oneI ds.length)
  | [.tuple ds] => some (oneI ds.length)
  | [.str z] => if z.length ≤ sizeLine then some (oneI z.length) else none
  | _ => none
def pyAbs : List PyData → Option RV
  | [.int i] => some (oneI (if i < 0 then -i else i))
  | _ => none
def pyInt : List PyData → Option RV
  | [.int i] => some (oneI i)
  | [.bool b] => some (oneI (if b then 1 else 0))
  | _ => none
def pyBool : List PyData → Option RV
  | [.int i] => some (.d (.bool (i != 0)))
  | [.bool b] => some (.d (.bool b))
  | _ => none
def pyMax2 : List PyData → Option RV
  | [.int i, .int j] => some (oneI (if j > i then j else i))
  | _ => none
def pyMin2 : List PyData → Option RV
  | [.int i, .int j] => some (oneI (if j < i then j else i))
  | _ => none
def pyListOf : List PyData → Option RV
  | [.list ds] => some (.fr (.list ds))
  | [.tuple ds] => some (.fr (.list ds))
  | _ => none
def pyTupOf : List PyData → Option RV
  | [.list ds] => some (.d (.tuple ds))
  | [.tuple ds] => some (.d (.tuple ds))
  | _ => none
def boolsOf : List PyData → Option (List Bool)
  | [] => some []
  | .bool b :: r => (boolsOf r).map (b :: ·)
  | _ :: _ => none
def intsOf : List PyData → Option (List Int)
  | [] => some []
  | .int b :: r => (intsOf r).map (b :: ·)
  | _ :: _ => none
theorem boolsOf_eq : ∀ {ds : List PyData} {bs : List Bool}, boolsOf ds = some bs → ds = bs.map .bool
  | [], _, h => by cases h; rfl
  | d :: ds, bs, h => by
    cases d with
    | bool b =>
      cases q : boolsOf ds with
      | none => simp [boolsOf, q] at h
      | some es =>
        simp [boolsOf, q] at h
        subst h
        rw [boolsOf_eq q]; rfl
    | _ => simp [boolsOf] at h
theorem intsOf_eq : ∀ {ds : List PyData} {bs : List Int}, intsOf ds = some bs → ds = bs.map .int
  | [], _, h => by cases h; rfl
  | d :: ds, bs, h => by
    cases d with
    | int b =>
      cases q : intsOf ds with
      | none => simp [intsOf, q] at h
      | some es =>
        simp [intsOf, q] at h
        subst h
        rw [intsOf_eq q]; rfl
    | _ => simp [intsOf] at h
theorem intsOf_map : ∀ ns : List Int, intsOf (ns.map .int) = some ns
  | [] => rfl
  | n :: ns => by simp [intsOf, intsOf_map ns]
theorem boolsOf_map : ∀ ns : List Bool, boolsOf (ns.map .bool) = some ns
  | [] => rfl
  | n :: ns => by simp [boolsOf, boolsOf_map ns]
theorem repL_bools_of {K : PySem.W.Frag} {F : Hp} : ∀ {ns : List Bool} {vs : List V}, RepL K F vs (ns.map .bool) → vs = ns.map V.bl
  | [], vs, h => repL_nil.mp h
  | n :: ns, vs, h => by
    obtain ⟨v, r, rfl, q, t⟩ := repL_cons.mp h
    rw [rep_bool.mp q, repL_bools_of t]
    rfl
def pyAll : List PyData → Option RV
  | [.list ds] => (boolsOf ds).map fun bs => .d (.bool (bs.all id))
  | _ => none
def pyAny : List PyData → Option RV
  | [.list ds] => (boolsOf ds).map fun bs => .d (.bool (bs.any id))
  | _ => none
def pySum : List PyData → Option RV
  | [.list ds] => (intsOf ds).map fun ns => oneI ns.sum
  | _ => none
def maxI : List Int → Option Int
  | [] => none
  | n :: ns => some (ns.foldl max n)
def minI : List Int → Option Int
  | [] => none
  | n :: ns => some (ns.foldl min n)
theorem foldl_max : ∀ (ns : List Int) (n : Int), ns.foldl max n ∈ n :: ns ∧ ∀ y ∈ n :: ns, y ≤ ns.foldl max n
  | [], n => by simp
  | m :: ns, n => by
    obtain ⟨h1, h2⟩ := foldl_max ns (max n m)
    rw [List.foldl_cons]
    refine ⟨?_, fun y hy => ?_⟩
    · rcases List.mem_cons.mp h1 with e | e
      · rw [e]
        by_cases q : n ≤ m
        · rw [Int.max_eq_right q]; simp
        · rw [Int.max_eq_left (by omega)]; simp
      · simp [e]
    · have h3 := h2 (max n m) (by simp)
      have h4 := Int.le_max_left n m
      have h5 := Int.le_max_right n m
      rcases List.mem_cons.mp hy with e | e
      · omega
      · rcases List.mem_cons.mp e with e | e
        · omega
        · exact h2 y (by simp [e])
theorem foldl_min : ∀ (ns : List Int) (n : Int), ns.foldl min n ∈ n :: ns ∧ ∀ y ∈ n :: ns, ns.foldl min n ≤ y
  | [], n => by simp
  | m :: ns, n => by
    obtain ⟨h1, h2⟩ := foldl_min ns (min n m)
    rw [List.foldl_cons]
    refine ⟨?_, fun y hy => ?_⟩
    · rcases List.mem_cons.mp h1 with e | e
      · rw [e]
        by_cases q : n ≤ m
        · rw [Int.min_eq_left q]; simp
        · rw [Int.min_eq_right (by omega)]; simp
      · simp [e]
    · have h3 := h2 (min n m) (by simp)
      have h4 := Int.min_le_left n m
      have h5 := Int.min_le_right n m
      rcases List.mem_cons.mp hy with e | e
      · omega
      · rcases List.mem_cons.mp e with e | e
        · omega
        · exact h2 y (by simp [e])
def pyMax : List PyData → Option RV
  | [.list ds] => match intsOf ds with
    | some ns => (maxI ns).map oneI
    | none => none
  | _ => none
def pyMin : List PyData → Option RV
  | [.list ds] => match intsOf ds with
    | some ns => (minI ns).map oneI
    | none => none
  | _ => none
section
variable {X : Cx}
theorem calld_len : CallD X (.builtin "len") pyLen := by
  refine ⟨_, call_len, fun F H vs xs Q ev hs hb hg hq => ?_⟩
  unfold pyLen at hg
  split at hg
  · cases hg
    cases hb with | cons b1 b2 => cases b2; obtain ⟨a, us, rfl, q, r⟩ := b1.seq hs; exact ⟨_, _, rfl, .inl ⟨us, SqL.of q, rfl⟩, hq.val hs (by rw [r.length]; exact rep_int.mpr rfl)⟩
  · cases hg
    cases hb with | cons b1 b2 => cases b2; obtain ⟨a, us, rfl, q, r⟩ := b1.tup hs; exact ⟨_, _, rfl, .inr ⟨us, q, rfl⟩, hq.val hs (by rw [r.length]; exact rep_int.mpr rfl)⟩
  · rename_i z
    by_cases h1 : z.length ≤ sizeLine
    · rw [if_pos h1] at hg
      cases hg
      cases hb with | cons b1 b2 => cases b2; rw [b1.str]; exact ⟨_, _, rfl, ⟨h1, rfl⟩, hq.val hs (rep_int.mpr rfl)⟩
    · rw [if_neg h1] at hg
      cases hg
  · cases hg
theorem calld_abs : CallD X (.builtin "abs") pyAbs := by
  refine ⟨_, call_abs, fun F H vs xs Q ev hs hb hg hq => ?_⟩
  unfold pyAbs at hg
  split at hg
  · cases hg
    cases hb with | cons b1 b2 => cases b2; rw [b1.int]; exact ⟨_, rfl, hq.val hs (rep_int.mpr rfl)⟩
  · cases hg
theorem calld_int : CallD X (.type "int") pyInt := by
  refine ⟨_, call_int1, fun F H vs xs Q ev hs hb hg hq => ?_⟩
  unfold pyInt at hg
  split at hg
  · cases hg
    cases hb with | cons b1 b2 => cases b2; rw [b1.int]; exact .inl ⟨_, rfl, hq.val hs (rep_int.mpr rfl)⟩
  · cases hg
    cases hb with | cons b1 b2 => cases b2; rw [b1.bool]; exact .inr ⟨_, rfl, hq.val hs (rep_int.mpr rfl)⟩
  · cases hg
theorem calld_bool : CallD X (.type "bool") pyBool := by
  refine ⟨_, call_bool1, fun F H vs xs Q ev hs hb hg hq => ?_⟩
  unfold pyBool at hg
  split at hg
  · cases hg
    cases hb with | cons b1 b2 => cases b2; rw [b1.int]; exact .inl ⟨_, rfl, hq.val hs (rep_bool.mpr rfl)⟩
  · cases hg
    cases hb with | cons b1 b2 => cases b2; rw [b1.bool]; exact .inr ⟨_, rfl, hq.val hs (rep_bool.mpr rfl)⟩
  · cases hg
theorem calld_max2 (hc : X.calm = true) : CallD X (.builtin "max") pyMax2 := by
  refine ⟨_, call_max2 hc, fun F H vs xs Q ev hs hb hg hq => ?_⟩
  unfold pyMax2 at hg
  split at hg
  · cases hg
    cases hb with | cons b1 b2 => cases b2 with | cons b2 b3 => cases b3; rw [b1.int, b2.int]; exact ⟨_, _, rfl, hq.val hs (rep_int.mpr rfl)⟩
  · cases hg
theorem calld_min2 (hc : X.calm = true) : CallD X (.builtin "min") pyMin2 := by
  refine ⟨_, call_min2 hc, fun F H vs xs Q ev hs hb hg hq => ?_⟩
  unfold pyMin2 at hg
  split at hg
  · cases hg
    cases hb with | cons b1 b2 => cases b2 with | cons b2 b3 => cases b3; rw [b1.int, b2.int]; exact ⟨_, _, rfl, hq.val hs (rep_int.mpr rfl)⟩
  · cases hg
theorem calld_list : CallD X (.type "list") pyListOf := by
  refine ⟨_, call_list_of, fun F H vs xs Q ev hs hb hg hq => ?_⟩
  unfold pyListOf at hg
  split at hg
  · cases hg
    cases hb with | cons b1 b2 => cases b2; obtain ⟨a, us, rfl, q, r⟩ := b1.seq hs; exact ⟨_, us, rfl, .inl (SqL.of q), fun l hl => hq.lst hs hl r⟩
  · cases hg
    cases hb with | cons b1 b2 => cases b2; obtain ⟨a, us, rfl, q, r⟩ := b1.tup hs; exact ⟨_, us, rfl, .inr q, fun l hl => hq.lst hs hl r⟩
  · cases hg
theorem calld_tuple : CallD X (.type "tuple") pyTupOf := by
  refine ⟨_, call_tuple_of, fun F H vs xs Q ev hs hb hg hq => ?_⟩
  unfold pyTupOf at hg
  split at hg
  · cases hg
    cases hb with | cons b1 b2 => cases b2; obtain ⟨a, us, rfl, q, r⟩ := b1.seq hs; exact ⟨_, us, rfl, .inl ⟨SqL.of q, fun l hl => hq.tup hs hl r⟩⟩
  · cases hg
    cases hb with
    | cons b1 b2 =>
      cases b2
      rcases b1 with b1 | ⟨a, _, o⟩
      · obtain ⟨a, us, rfl, q, r⟩ := rep_tup.mp b1
        exact ⟨_, us, rfl, .inr ⟨SqT.up hs q, hq.val hs b1⟩⟩
      · exact o.elim
  · cases hg
theorem calld_all (hc : X.calm = true) : CallD X (.builtin "all") pyAll := by
  refine ⟨_, cr_all hc, fun F H vs xs Q ev hs hb hg hq => ?_⟩
  unfold pyAll at hg
  split at hg
  · obtain ⟨bs, h1, rfl⟩ := Option.map_eq_some_iff.mp hg
    cases hb with
    | cons b1 b2 =>
      cases b2
      rw [boolsOf_eq h1] at b1
      obtain ⟨a, us, rfl, q, r⟩ := b1.seq hs
      rw [repL_bools_of r] at q
      exact ⟨_, bs, rfl, SqL.of q, hq.val hs (rep_bool.mpr rfl)⟩
  · cases hg
theorem calld_any (hc : X.calm = true) : CallD X (.builtin "any") pyAny := by
  refine ⟨_, cr_any hc, fun F H vs xs Q ev hs hb hg hq => ?_⟩
  unfold pyAny at hg
  split at hg
  · obtain ⟨bs, h1, rfl⟩ := Option.map_eq_some_iff.mp hg
    cases hb with
    | cons b1 b2 =>
      cases b2
      rw [boolsOf_eq h1] at b1
      obtain ⟨a, us, rfl, q, r⟩ := b1.seq hs
      rw [repL_bools_of r] at q
      exact ⟨_, bs, rfl, SqL.of q, hq.val hs (rep_bool.mpr rfl)⟩
  · cases hg
theorem calld_sum (hc : X.calm = true) : CallD X (.builtin "sum") pySum := by
  refine ⟨_, cr_sum hc, fun F H vs xs Q ev hs hb hg hq => ?_⟩
  unfold pySum at hg
  split at hg
  · obtain ⟨bs, h1, rfl⟩ := Option.map_eq_some_iff.mp hg
    cases hb with
    | cons b1 b2 =>
      cases b2
      rw [intsOf_eq h1] at b1
      obtain ⟨a, us, rfl, q, r⟩ := b1.seq hs
      rw [repL_ints_of r] at q
      exact ⟨_, bs, rfl, SqL.of q, hq.val hs (rep_int.mpr rfl)⟩
  · cases hg
theorem calld_max (hc : X.calm = true) : CallD X (.builtin "max") pyMax := by
  refine ⟨_, cr_max hc, fun F H vs xs Q ev hs hb hg hq => ?_⟩
  unfold pyMax at hg
  split at hg
  · split at hg
    · rename_i ns h1
      obtain ⟨m, h2, rfl⟩ := Option.map_eq_some_iff.mp hg
      cases hb with
      | cons b1 b2 =>
        cases b2
        rw [intsOf_eq h1] at b1
        obtain ⟨a, us, rfl, q, r⟩ := b1.seq hs
        rw [repL_ints_of r] at q
        cases ns with
        | nil => cases h2
        | cons n ns =>
          cases h2
          obtain ⟨h3, h4⟩ := foldl_max ns n
          refine ⟨_, n :: ns, rfl, SqL.of q, Nat.succ_pos _, fun m hm hle => hq.val hs (rep_int.mpr ?_)⟩
          have z1 := h4 m hm
          have z2 := hle _ h3
          rw [Int.le_antisymm z1 z2]
    · cases hg
  · cases hg
theorem calld_min (hc : X.calm = true) : CallD X (.builtin "min") pyMin := by
  refine ⟨_, cr_min hc, fun F H vs xs Q ev hs hb hg hq => ?_⟩
  unfold pyMin at hg
  split at hg
  · split at hg
    · rename_i ns h1
      obtain ⟨m, h2, rfl⟩ := Option.map_eq_some_iff.mp hg
      cases hb with
      | cons b1 b2 =>
        cases b2
        rw [intsOf_eq h1] at b1
        obtain ⟨a, us, rfl, q, r⟩ := b1.seq hs
        rw [repL_ints_of r] at q
        cases ns with
        | nil => cases h2
        | cons n ns =>
          cases h2
          obtain ⟨h3, h4⟩ := foldl_min ns n
          refine ⟨_, n :: ns, rfl, SqL.of q, Nat.succ_pos _, fun m hm hle => hq.val hs (rep_int.mpr ?_)⟩
          have z1 := h4 m hm
          have z2 := hle _ h3
          rw [Int.le_antisymm z2 z1]
    · cases hg
  · cases hg
end
/-! ### isinstance -/
def tyName : PyData → String
  | .none => "NoneType"
  | .bool _ => "bool"
  | .int _ => "int"
  | .str _ => "str"
  | .list _ => "list"
  | .tuple _ => "tuple"
  | .dict _ => "dict"
def isiD (T : String) (d : PyData) : Bool := tyName d == T || (T == "int" && tyName d == "bool")
theorem tyx_of {K : PySem.W.Frag} {F H : Hp} {v : V} {d : PyData} (hs : Same F H) (h : Bor K F H v d) : TyX K H v (.type (tyName d)) := by
  cases d with
  | none => rw [h.none]; exact .base .non
  | bool b => rw [h.bool]; exact .base (.bl b)
  | int i => rw [h.int]; exact .base (.int i)
  | str z => rw [h.str]; exact .base (.str z)
  | list ds => obtain ⟨a, us, rfl, q, r⟩ := h.seq hs; exact .base (.lst q)
  | tuple ds =>
    obtain ⟨a, us, rfl, q, r⟩ := h.tup hs
    rcases q with (q | ⟨o, q⟩) | ⟨o, its, n, q, hc, _⟩
    · exact .base (.tup q)
    · exact .fTuple q
    · exact .kTuple q hc
  | dict kvs =>
    rcases h with h | ⟨a, rfl, kv, q, r⟩
    · obtain ⟨a, kv, rfl, q, r⟩ := rep_dict.mp h
      exact .base (.dK (hs _ _ q))
    · exact .base (.dK q)
/-- the answers that the library's table gives -/
def IsiOk (T : String) : Prop := kitB "NoneType" T = some (T == "NoneType" || (T == "int" && false)) ∧ kitB "bool" T = some (T == "bool" || T == "int") ∧ kitB "int" T = some (T == "int") ∧ kitB "str" T = some (T == "str") ∧ kitB "list" T = some (T == "list") ∧ kitB "tuple" T = some (T == "tuple") ∧ kitB "dict" T = some (T == "dict")
theorem isi_int : IsiOk "int" := ⟨by decide +kernel, by decide +kernel, by decide +kernel, by decide +kernel, by decide +kernel, by decide +kernel, by decide +kernel⟩
theorem isi_bool : IsiOk "bool" := ⟨by decide +kernel, by decide +kernel, by decide +kernel, by decide +kernel, by decide +kernel, by decide +kernel, by decide +kernel⟩
theorem isi_str : IsiOk "str" := ⟨by decide +kernel, by decide +kernel, by decide +kernel, by decide +kernel, by decide +kernel, by decide +kernel, by decide +kernel⟩
theorem isi_tuple : IsiOk "tuple" := ⟨by decide +kernel, by decide +kernel, by decide +kernel, by decide +kernel, by decide +kernel, by decide +kernel, by decide +kernel⟩
theorem isi_list : IsiOk "list" := ⟨by decide +kernel, by decide +kernel, by decide +kernel, by decide +kernel, by decide +kernel, by decide +kernel, by decide +kernel⟩
def mIsi (T : String) (ma : M EV) : M EV := ma.bind fun a => fun env g =>
  match look env a with
  | some x => .ok (.d (.bool (isiD T x))) env g
  | _ => .bad
theorem kit_of_ok {K : PySem.W.Frag} {T : String} (h : IsiOk T) (d : PyData) : PySem.W.kitOne K (.type (tyName d)) (.type T) = some (isiD T d) := by
  obtain ⟨h1, h2, h3, h4, h5, h6, h7⟩ := h
  cases d with
  | none => refine kit_ty (h1.trans ?_); simp [isiD, tyName, eq_comm, BEq.comm]
  | bool b => refine kit_ty (h2.trans ?_); simp [isiD, tyName, BEq.comm]
  | int i => refine kit_ty (h3.trans ?_); simp [isiD, tyName, BEq.comm]
  | str z => refine kit_ty (h4.trans ?_); simp [isiD, tyName, BEq.comm]
  | list ds => refine kit_ty (h5.trans ?_); simp [isiD, tyName, BEq.comm]
  | tuple ds => refine kit_ty (h6.trans ?_); simp [isiD, tyName, BEq.comm]
  | dict kvs => refine kit_ty (h7.trans ?_); simp [isiD, tyName, BEq.comm]
section
variable {X : Cx} {C : DCx} {e : Expr} {es : List Expr} {pos : Pos}
theorem de_isi {T : String} {x : Str} {p p2 : Pos} {m : M EV} (ok : IsiOk T) (hg : Gl X "isinstance") (hm : X.mg "isinstance" = none) (hgT : Gl X x) (hmT : X.mg x = none) (hvT : bootBuiltins x = some (.type T)) (he : DE X C e m) (hnT : x ≠ "__name__" := by decide) (hdT : (x == ("__debug__" : Str)) = false := by decide)
    (hs : starEach [e, .Name x p2] X.env = (false, eval e X.env) :: starEach [.Name x p2] X.env := by rfl) (hs2 : starEach [.Name x p2] X.env = (false, eval (.Name x p2) X.env) :: starEach [] X.env := by rfl) (hpl : (backTo pos (starEach [.Name x p2] X.env)).any (·.1) = false := by rfl) :
    DE X C (.Call (.Name "isinstance" p) [e, .Name x p2] [] pos) (mIsi T m) := by
  refine ⟨fun hK => ?_⟩
  obtain ⟨t, ht, s⟩ := he.run hK
  have h2 : PA X [.Name x p2] (tCons (tC (.ty T)) tNil) := pa_cons (pe_bltn hgT hmT hvT rfl hnT hdT) pa_nil hs2
  refine ⟨_, pe_callB call_isi hg hm (by decide +kernel) (pa_cons ht h2 hs) (by decide) (by decide) hs hpl, fun σ F H l env g Q R w => ?_⟩
  refine s σ F H l env g _ R (Wp.mono (Wp.bind.mp w) (fun a env1 g1 w v F1 H1 l1 R1 x1 r1 f1 => ?_) fun _ _ _ _ w => w)
  split at w
  · rename_i y e1
    exact ⟨v, .ty T, _, _, _, rfl, .ty T, by rw [← hK]; exact tyx_of R1.sub (r1.look R1 e1), kit_of_ok ok y, w _ F1 H1 l1 R1 x1 RepEV.ofb trivial⟩
  · exact w.elim
end
end DL
namespace DL
open PySem L2
/-! ### a[i] -/
def pyIx : PyData → PyData → Option RV
  | .list ds, .int i => (atI ds i).map .d
  | .tuple ds, .int i => (atI ds i).map .d
  | .str z, .int i => if z.length ≤ sizeLine then (atI z.cps.toList i).map fun c => .d (.str ⟨#[c]⟩) else none
  | _, _ => none
theorem RepL.atI {K : PySem.W.Frag} {F : Hp} {ds : List PyData} {vs : List V} {i : Int} {d : PyData} (h : RepL K F vs ds) (e : L2.atI ds i = some d) : ∃ v, L2.atI vs i = some v ∧ Rep K F v d := by
  unfold L2.atI at e ⊢
  rw [h.length]
  cases q : ixN ds.length i with
  | none => rw [q] at e; cases e
  | some j =>
    rw [q] at e
    exact RepL.get' (i := j) h e
section
variable {X : Cx} {C : DCx} {e : Expr} {es : List Expr} {pos : Pos}
theorem de_ix {a b : Expr} {ma mb : M EV} (ha : DE X C a ma) (hb : DE X C b mb) (hp : PlainIx b := by intro _ _; rfl) : DE X C (.Subscript a b pos) (mBin pyIx ma mb) := by
  refine ⟨fun hK => ?_⟩
  obtain ⟨ta, h1, s1⟩ := ha.run hK
  obtain ⟨tb, h2, s2⟩ := hb.run hK
  refine ⟨_, pe_ix ix_seq h1 h2 hp, simBin s1 s2 ?_⟩
  rw [hK]
  intro F H v w x y Q ev hs hx hy hg hq
  unfold pyIx at hg
  split at hg
  · rename_i ds i
    obtain ⟨d, h3, rfl⟩ := Option.map_eq_some_iff.mp hg
    obtain ⟨a, us, rfl, q, r⟩ := hx.seq hs
    obtain ⟨u, h4, h5⟩ := r.atI h3
    rw [hy.int]
    exact .inl ⟨_, us, i, u, rfl, rfl, SqL.of q, h4, hq.val hs h5⟩
  · rename_i ds i
    obtain ⟨d, h3, rfl⟩ := Option.map_eq_some_iff.mp hg
    obtain ⟨a, us, rfl, q, r⟩ := hx.tup hs
    obtain ⟨u, h4, h5⟩ := r.atI h3
    rw [hy.int]
    exact .inr (.inl ⟨_, us, i, u, rfl, rfl, q, h4, hq.val hs h5⟩)
  · rename_i z i
    by_cases h1 : z.length ≤ sizeLine
    · rw [if_pos h1] at hg
      obtain ⟨c, h3, rfl⟩ := Option.map_eq_some_iff.mp hg
      rw [hy.int, hx.str]
      exact .inr (.inr ⟨z, i, c, rfl, rfl, h1, h3, hq.val hs (rep_str.mpr rfl)⟩)
    · rw [if_neg h1] at hg
      cases hg
  · cases hg
/-! ### a[lo:hi] -/
/-- a part of a slice -/
def SimO (C : DCx) (t : TO) (m : M (Option Int)) : Prop := ∀ (σ : L2.St) (F H : Hp) (l : Loc) (env : Env') (g : G) (Q : Option Int → Hp → Prop), Rel C σ F H l env g →
  Wp (m env g) (fun o env' g' => ∀ F' H' l', Rel C σ F' H' l' env' g' → Ext σ F H l env F' H' l' env' → Q o H') (KX C σ) → t σ H Q
structure DO (X : Cx) (C : DCx) (e : Option Expr) (m : M (Option Int)) : Prop where
  run : C.K = X.K → ∃ t, PO X e t ∧ SimO C t m
def mPart : PyData → M (Option Int)
  | .int i => M.pure (some i)
  | _ => M.bad
theorem do_none : DO X C none (M.pure none) := ⟨fun _ => ⟨_, po_none, fun σ F H l env g Q R w => w F H l R .refl⟩⟩
theorem do_some {m : M PyData} (h : DD X C e m) : DO X C (some e) (m.bind mPart) := by
  refine ⟨fun hK => ?_⟩
  obtain ⟨t, ht, s⟩ := h.run hK
  refine ⟨_, po_some ht, fun σ F H l env g Q R w => s σ F H l env g _ R (Wp.mono (Wp.bind.mp w) (fun d env1 g1 w v F1 H1 l1 R1 x1 r1 => ?_) fun _ _ _ _ w => w)⟩
  cases d with
  | int i => exact ⟨i, rep_int.mp r1, w F1 H1 l1 R1 x1⟩
  | _ => exact w.elim
def cutD (ds : List PyData) (lo hi : Option Int) : List PyData := (ds.drop (HT.sIx ds.length 0 lo)).take (HT.sIx ds.length ds.length hi - HT.sIx ds.length 0 lo)
theorem RepL.cut {K : PySem.W.Frag} {F : Hp} {ds : List PyData} {vs : List V} (h : RepL K F vs ds) (lo hi : Option Int) : RepL K F (cutV vs lo hi) (cutD ds lo hi) := by
  unfold cutV cutD
  rw [h.length]
  exact RepL.take _ (RepL.drop _ h)
def pySl (x : PyData) (lo hi : Option Int) : Option RV := match x with
  | .list ds => some (.fr (.list (cutD ds lo hi)))
  | .tuple ds => some (.d (.tuple (cutD ds lo hi)))
  | .str z => if z.length ≤ sizeLine then some (.d (.str (cutS z lo hi))) else none
  | _ => none
def mSl (ma : M EV) (ml mh : M (Option Int)) : M EV := ma.bind fun a => ml.bind fun lo => mh.bind fun hi => fun env g =>
  match look env a with
  | some x => M.opt ((pySl x lo hi).map RV.ev) env g
  | _ => .bad
theorem cutD_all {ds : List PyData} {lo hi : Option Int} (h1 : HT.sIx ds.length 0 lo = 0) (h2 : HT.sIx ds.length ds.length hi = ds.length) : cutD ds lo hi = ds := by
  unfold cutD
  rw [h1, h2]
  simp
theorem de_slice {lo hi : Option Expr} {p2 : Pos} {ma : M EV} {ml mh : M (Option Int)} (ha : DE X C e ma) (hl : DO X C lo ml) (hh : DO X C hi mh) : DE X C (.Subscript e (.Slice lo hi none p2) pos) (mSl ma ml mh) := by
  refine ⟨fun hK => ?_⟩
  obtain ⟨ta, h1, s1⟩ := ha.run hK
  obtain ⟨tl, h2, s2⟩ := hl.run hK
  obtain ⟨th, h3, s3⟩ := hh.run hK
  refine ⟨_, pe_slice (sl_list.or (sl_tupA.or sl_str)) h1 h2 h3, fun σ F H l env g Q R w => ?_⟩
  refine s1 σ F H l env g _ R (Wp.mono (Wp.bind.mp w) (fun a env1 g1 w v F1 H1 l1 R1 x1 r1 f1 => ?_) fun _ _ _ _ w => w)
  refine s2 σ F1 H1 l1 env1 g1 _ R1 (Wp.mono (Wp.bind.mp w) (fun lo' env2 g2 w F2 H2 l2 R2 x2 => ?_) fun _ _ _ _ w => w)
  refine s3 σ F2 H2 l2 env2 g2 _ R2 (Wp.mono (Wp.bind.mp w) (fun hi' env3 g3 w F3 H3 l3 R3 x3 => ?_) fun _ _ _ _ w => w)
  have x03 := (x1.trans (C := C) x2).trans (C := C) x3
  have r3 := (r1.up x2).up x3
  split at w
  · rename_i x e1
    have b := r3.look R3 e1
    cases hg : pySl x lo' hi' with
    | none => rw [hg] at w; exact w.elim
    | some ev =>
      rw [hg] at w
      have hq := KE.res R3 (KE.up w x03)
      rw [hK] at b hq
      unfold pySl at hg
      split at hg
      · cases hg
        obtain ⟨a, us, rfl, q, r⟩ := b.seq R3.sub
        exact .inl ⟨a, us, rfl, SqL.of q, fun p hp => hq.lst R3.sub hp (r.cut _ _)⟩
      · rename_i ds
        cases hg
        rcases b with b | ⟨a, _, o⟩
        · obtain ⟨a, us, rfl, q, r⟩ := rep_tup.mp b
          have hlen := r.length
          refine .inr (.inl ⟨a, us, rfl, SqT.up R3.sub q, fun hw => ?_, fun _ p hp => hq.tup R3.sub hp (r.cut _ _)⟩)
          rw [hlen] at hw
          have e2 := cutD_all hw.1 hw.2
          rw [e2] at hq
          exact hq.val R3.sub b
        · exact o.elim
      · rename_i z
        by_cases h1 : z.length ≤ sizeLine
        · rw [if_pos h1] at hg
          cases hg
          rw [b.str]
          exact .inr (.inr ⟨z, rfl, h1, hq.val R3.sub (rep_str.mpr rfl)⟩)
        · rw [if_neg h1] at hg
          cases hg
      · cases hg
  · exact w.elim
end
/-! ### a[::-1] -/
section
open PySem.W PyProof.Rows PySem.Spec HT
variable {prog : Program} {w : World} {A : Around} {E : Value → Shared → Prop} {s : Shared}
theorem adjust_rev (n : Nat) : Builtin.Slice.sliceAdjust none none (-1) (n : Int) = ((n : Int) - 1, -1) := by
  unfold Builtin.Slice.sliceAdjust
  simp
theorem places_rev (n : Nat) : Builtin.Slice.slicePlaces ((n : Int) - 1) (-1) (-1) = n := by
  unfold Builtin.Slice.slicePlaces
  rw [if_neg (by omega)]
  split <;> simp <;> omega
theorem range_rev (n : Nat) (f : Nat → Option Value) : (List.range n).filterMap (fun m => f (n - 1 - m)) = ((List.range n).filterMap f).reverse := by
  have e : (List.range n).reverse = (List.range n).map fun m => n - 1 - m := by
    refine List.ext_getElem (by simp) fun i h1 h2 => ?_
    simp
  rw [← List.filterMap_reverse, e, List.filterMap_map]
  rfl
theorem pick_rev (xs : List Value) : ((List.range xs.length).filterMap fun (m : Nat) => xs.toArray[(((xs.length : Int) - 1) + (m : Int) * (-1)).toNat]?).toArray = xs.reverse.toArray := by
  have e : (fun (m : Nat) => xs.toArray[(((xs.length : Int) - 1) + (m : Int) * (-1)).toNat]?) = fun m => (fun k => xs.toArray[k]?) (xs.length - 1 - m) := by
    funext m
    have : (((xs.length : Int) - 1) + (m : Int) * (-1)).toNat = xs.length - 1 - m := by omega
    rw [this]
  rw [e, range_rev]
  have h := pick_gen xs.toArray 0 xs.length
  have e2 : (fun (m : Nat) => xs.toArray[(((0 : Nat) : Int) + (m : Int) * 1).toNat]?) = fun m => xs.toArray[m]? := by
    funext m
    have : (((0 : Nat) : Int) + (m : Int) * 1).toNat = m := by omega
    rw [this]
  rw [e2] at h
  have h' := congrArg Array.toList h
  simp only at h'
  rw [h']
  simp
theorem sliceRev {sl : Addr} {vl vu vs : Value} {n : Nat} {Q : Int × Int × Nat → Shared → Prop} (hs : s.heap.IsSliceOf sl vl vu vs) (pl : IsPart vl none) (pu : IsPart vu none) (ps : IsPart vs (some (-1)))
    (h : Q ((n : Int) - 1, -1, n) s) : wpAny (model prog w) A (Builtin.Slice.sliceApplied (.ref sl) (pure (n : Int))) Q E s := by
  obtain ⟨os, hos, hcs, hds⟩ := id hs
  unfold Builtin.Slice.sliceApplied Builtin.Slice.sliceFields
  refine wpAny_bind (wpAny_bind (wpAny_field hos hds (x := vl) rfl (wpAny_bind (wpAny_field hos hds (x := vu) rfl (wpAny_bind (wpAny_field hos hds (x := vs) rfl (wpAny_pure ?_)))))))
  refine wpAny_bind (slicePart_ ps ?_)
  show wpAny _ _ (if ((-1 : Int) == 0) = true then _ else _) _ _ s
  rw [if_neg (by decide)]
  refine wpAny_bind (slicePart_ pl (wpAny_bind (slicePart_ pu (wpAny_bind (wpAny_pure ?_)))))
  show wpAny _ _ (match Builtin.Slice.sliceAdjust none none (-1) (n : Int) with | (a, b) => pure (a, (-1 : Int), Builtin.Slice.slicePlaces a b (-1))) _ _ s
  rw [adjust_rev n]
  show wpAny _ _ (pure ((n : Int) - 1, (-1 : Int), Builtin.Slice.slicePlaces ((n : Int) - 1) (-1) (-1))) _ _ s
  rw [places_rev]
  exact wpAny_pure h
theorem revTuple {t sl : Addr} {xs : List Value} {vl vu vs : Value} {Q : Value → Shared → Prop} (ht : IsTup s.heap t xs.toArray) (hs : s.heap.IsSliceOf sl vl vu vs) (pl : IsPart vl none) (pu : IsPart vu none) (ps : IsPart vs (some (-1)))
    (h : Q (.ref s.heap.objs.size) { s with heap := s.heap.push { cls := .type "tuple", data := .seq xs.reverse.toArray } })
    (hsz : xs.length ≤ sizeLine) : wpAny (model prog w) A (getItem (.ref t) (.ref sl)) Q E s := by
  have htake : sizeOk (.seq xs.reverse.toArray) := by
    show xs.reverse.toArray.size ≤ sizeLine
    rw [List.size_toArray, List.length_reverse]
    exact hsz
  obtain ⟨os, hos, hcs, hds⟩ := id hs
  have hTs : s.TypeIs (.ref sl) "slice" := ⟨os, hos, hcs⟩
  unfold getItem
  try with_reducible refine wpAny_holding ?_
  first | refine wpAny_bind (wpAny_pure ?_) | skip
  refine wpAny_bind (wpAny_sequenceKey ht.typeIs (by decide) ?_)
  refine wpAny_bind (wpAny_callSpecial?_slot (name := Str.ofString "__getitem__") ht.typeIs PyProof.Rows.slot_tuple_getitem
    (wpAny_call_entry PyProof.Rows.slot_tuple_getitem ht.typeIs entry_tuple_getitem ?_ (args_tuple_getitem _ _)))
  change wpAny _ _ (Builtin.Tuple.tupleItemsOf (.ref t) >>= _) _ _ s
  refine wpAny_bind (tupleItemsOf_ ht ?_)
  refine wpAny_bind (wpAny_typeOf hTs ?_)
  rw [if_pos (by decide)]
  refine wpAny_bind (sliceRev (n := xs.length) hs pl pu ps ?_)
  change wpAny _ _ (if (((xs.length : Int) - 1) == 0 && (-1 : Int) == 1 && xs.length == xs.toArray.size) = true then _ else _) _ _ s
  rw [if_neg (by simp), pick_rev]
  first
    | exact wpAny_bind (m := Builtin.Tuple.tupleExact _) (wpAny_newObj_type (wpAny_pure ⟨_, rfl, wpAny_pure h⟩) htake)
    | exact wpAny_bind (m := Builtin.Tuple.tupleExact _) (wpAny_newObj_type (wpAny_bind (wpAny_pure (wpAny_pure ⟨_, rfl, wpAny_pure h⟩))) htake)
    | exact wpAny_bind (wpAny_bind (m := Builtin.Tuple.tupleExact _) (wpAny_newObj_type (wpAny_pure (wpAny_pure ⟨_, rfl, wpAny_pure h⟩)) htake))
    | exact wpAny_bind (wpAny_bind (m := Builtin.Tuple.tupleExact _) (wpAny_newObj_type (wpAny_pure ⟨_, rfl, wpAny_pure h⟩) htake))
end
def pyRev : PyData → Option RV
  | .list ds => some (.fr (.list ds.reverse))
  | .tuple ds => some (.d (.tuple ds.reverse))
  | _ => none
theorem RepL.rev {K : PySem.W.Frag} {F : Hp} : ∀ {ds : List PyData} {vs : List V}, RepL K F vs ds → RepL K F vs.reverse ds.reverse
  | [], vs, h => by rw [repL_nil] at h; rw [h]; exact repL_nil.mpr rfl
  | d :: ds, vs, h => by
    obtain ⟨v, r, rfl, q, t⟩ := repL_cons.mp h
    rw [List.reverse_cons, List.reverse_cons]
    exact RepL.append (RepL.rev t) (repL_cons.mpr ⟨v, [], rfl, q, repL_nil.mpr rfl⟩)
section
open PySem.Spec PyProof.Rows
variable {X : Cx} {C : DCx} {e : Expr} {es : List Expr} {pos : Pos}
def tRevA (K : PySem.W.Frag) (te : TE) : TE := fun σ H Q => te σ H fun x H1 => (∃ a xs, x = .ref a ∧ SqL K H1 a xs ∧ ∀ p, H1 p = none → Q (.ref p) (upd H1 p (.lst xs.reverse))) ∨ ∃ a xs, x = .ref a ∧ SqT K H1 a xs ∧ ∀ p, H1 p = none → Q (.ref p) (upd H1 p (.tup xs.reverse))
theorem pe_revA {te : TE} {k : Nat} {p1 p2 p3 : Pos} (he : PE X e te) : PE X (.Subscript e (.Slice none none (some (.UnaryOp .USub (.Constant (.int 1) k p1) p2)) p3) pos) (tRevA X.K te) := by
  refine ⟨fun pins s σ H Q I h => ?_⟩
  refine Subscript_ (thn (he.run pins s σ H _ I h) fun v s1 ⟨x, H1, I1, r1, q1⟩ => ?_)
  have hst : PO X (some (.UnaryOp .USub (.Constant (.int 1) k p1) p2)) (tPart (tUn (rU fun i => .int (-i)) (tC (.int 1)))) := po_some (pe_un un_neg pe_int)
  refine wpAny_Slice (thn (po_none.run pins s1 σ H1 (fun o G => o = none ∧ G = H1) I1 ⟨rfl, rfl⟩) fun vl s2 ⟨l, H2, I2, pl, el, e2⟩ => ?_)
  subst el e2
  refine thn (po_none.run pins s2 σ H2 (fun o G => o = none ∧ G = H2) I2 ⟨rfl, rfl⟩) fun vu s3 ⟨u, H3, I3, pu, eu, e3⟩ => ?_
  subst eu e3
  refine thn (hst.run pins s3 σ H3 (fun o G => o = some (-1) ∧ G = H3) I3 ⟨1, rfl, -1, rfl, rfl, rfl⟩) fun vs s4 ⟨o, H4, I4, ps, eo, e4⟩ => ?_
  subst eo e4
  have I5 : Inv X pins σ H4 { s4 with heap := s4.heap.push { cls := .type "slice", data := .fields #[vl, vu, vs] } } := I4.kept (t' := s4.toks) fun b ob q => Heap.get?_push_of_some _ q
  change wpAny (model X.prog X.w) X.A (subscriptTail e (.Slice none none (some (.UnaryOp .USub (.Constant (.int 1) k p1) p2)) p3) v (.ref s4.heap.objs.size)) (EP X pins σ Q) X.xe { s4 with heap := s4.heap.push { cls := .type "slice", data := .fields #[vl, vu, vs] } }
  rcases q1 with ⟨a, xs, rfl, hx, q⟩ | ⟨a, xs, rfl, hx, q⟩
  · cases r1
    obtain ⟨its, r, ht, hz⟩ := I5.list hx
    have hlen := r.length
    refine tail_any (ops := [.ref a, .ref s4.heap.objs.size]) ht.isList.typeIs (PySem.slot_list_getitem.lookup) ?_ (by with_unfolding_all rfl)
    refine wpAny_getItem_list_slice ht.isList (Heap.IsSliceOf.new _ vl vu vs) pl pu ps (by decide) ?_ (by rw [List.size_toArray]; omega)
    rw [PySem.W.krv_pick]
    exact ⟨.ref _, _, I5.laid (t' := s4.toks) (o := .lst xs.reverse) (fun b ob q => Heap.get?_push_of_some _ q) (Nat.le_refl _) ⟨by rw [List.length_reverse]; exact hz, _, 0, r.reverse, Heap.get?_push_size _ rfl⟩, rfl, q _ (I5.hok.fresh (Nat.le_refl _))⟩
  · cases r1
    obtain ⟨its, r, ht, hz⟩ := I5.tuple hx
    have hlen := r.length
    refine tail_any (ops := [.ref a, .ref s4.heap.objs.size]) ht.typeIs (PyProof.Rows.slot_tuple_getitem.lookup) ?_ (by with_unfolding_all rfl)
    refine revTuple ht (Heap.IsSliceOf.new _ vl vu vs) pl pu ps ?_ (by rw [← hlen]; exact hz)
    exact ⟨.ref _, _, I5.laid (t' := s4.toks) (o := .tup xs.reverse) (fun b ob q => Heap.get?_push_of_some _ q) (Nat.le_refl _) ⟨by rw [List.length_reverse]; exact hz, _, r.reverse, IsTup.new _ _⟩, rfl, q _ (I5.hok.fresh (Nat.le_refl _))⟩
theorem de_rev {k : Nat} {p1 p2 p3 : Pos} {ma : M EV} (ha : DE X C e ma) : DE X C (.Subscript e (.Slice none none (some (.UnaryOp .USub (.Constant (.int 1) k p1) p2)) p3) pos) (mUn pyRev ma) := by
  refine ⟨fun hK => ?_⟩
  obtain ⟨ta, h1, s1⟩ := ha.run hK
  refine ⟨_, pe_revA h1, fun σ F H l env g Q R w => ?_⟩
  refine s1 σ F H l env g _ R (Wp.mono (Wp.bind.mp w) (fun a env1 g1 w v F1 H1 l1 R1 x1 r1 f1 => ?_) fun _ _ _ _ w => w)
  split at w
  · rename_i x e1
    have b := r1.look R1 e1
    cases hg : pyRev x with
    | none => rw [hg] at w; exact w.elim
    | some ev =>
      rw [hg] at w
      have hq := KE.res R1 (KE.up w x1)
      rw [hK] at b hq
      unfold pyRev at hg
      split at hg
      · cases hg
        obtain ⟨a, us, rfl, q, r⟩ := b.seq R1.sub
        exact .inl ⟨a, us, rfl, SqL.of q, fun p hp => hq.lst R1.sub hp r.rev⟩
      · cases hg
        obtain ⟨a, us, rfl, q, r⟩ := b.tup R1.sub
        exact .inr ⟨a, us, rfl, q, fun p hp => hq.tup R1.sub hp r.rev⟩
      · cases hg
  · exact w.elim
/-! ### list(range(..)), tuple(range(..)) -/
def SimRg (C : DCx) (t : L2.St → Hp → (Int → Int → Hp → Prop) → Prop) (m : M (Int × Int)) : Prop := ∀ (σ : L2.St) (F H : Hp) (l : Loc) (env : Env') (g : G) (Q : Int → Int → Hp → Prop), Rel C σ F H l env g →
  Wp (m env g) (fun p env' g' => ∀ F' H' l', Rel C σ F' H' l' env' g' → Ext σ F H l env F' H' l' env' → Q p.1 p.2 H') (KX C σ) → t σ H Q
structure DR (X : Cx) (C : DCx) (e : Expr) (m : M (Int × Int)) : Prop where
  run : C.K = X.K → ∃ t, PRg X e t ∧ SimRg C t m
def mIntOf : PyData → M Int
  | .int i => M.pure i
  | _ => M.bad
def mRg1 (ma : M PyData) : M (Int × Int) := ma.bind fun a => (mIntOf a).bind fun n => M.pure (0, n)
def mRg2 (ma mb : M PyData) : M (Int × Int) := ma.bind fun a => mb.bind fun b => (mIntOf a).bind fun i => (mIntOf b).bind fun j => M.pure (i, j)
theorem dr_1 {a : Expr} {p : Pos} {ma : M PyData} (hg : Gl X "range") (hm : X.mg "range" = none) (ha : DD X C a ma) (na : starEach [a] X.env = (false, eval a X.env) :: starEach [] X.env := by rfl) : DR X C (.Call (.Name "range" p) [a] [] pos) (mRg1 ma) := by
  refine ⟨fun hK => ?_⟩
  obtain ⟨ta, h1, s1⟩ := ha.run hK
  refine ⟨_, prg_1 hg hm h1 na, fun σ F H l env g Q R w => ?_⟩
  refine s1 σ F H l env g _ R (Wp.mono (Wp.bind.mp w) (fun d env1 g1 w v F1 H1 l1 R1 x1 r1 => ?_) fun _ _ _ _ w => w)
  cases d with
  | int i => exact ⟨i, rep_int.mp r1, w F1 H1 l1 R1 x1⟩
  | _ => exact w.elim
theorem dr_2 {a b : Expr} {p : Pos} {ma mb : M PyData} (hg : Gl X "range") (hm : X.mg "range" = none) (ha : DD X C a ma) (hb : DD X C b mb) (na : starEach [a, b] X.env = (false, eval a X.env) :: starEach [b] X.env := by rfl)
    (nb : starEach [b] X.env = (false, eval b X.env) :: starEach [] X.env := by rfl) (hp : (backTo pos (starEach [b] X.env)).any (·.1) = false := by rfl) : DR X C (.Call (.Name "range" p) [a, b] [] pos) (mRg2 ma mb) := by
  refine ⟨fun hK => ?_⟩
  obtain ⟨ta, h1, s1⟩ := ha.run hK
  obtain ⟨tb, h2, s2⟩ := hb.run hK
  refine ⟨_, prg_2 hg hm h1 h2 na nb hp, fun σ F H l env g Q R w => ?_⟩
  refine s1 σ F H l env g _ R (Wp.mono (Wp.bind.mp w) (fun d env1 g1 w v F1 H1 l1 R1 x1 r1 => ?_) fun _ _ _ _ w => w)
  refine s2 σ F1 H1 l1 env1 g1 _ R1 (Wp.mono (Wp.bind.mp w) (fun d2 env2 g2 w u F2 H2 l2 R2 x2 r2 => ?_) fun _ _ _ _ w => w)
  cases d with
  | int i =>
    cases d2 with
    | int j => exact ⟨i, j, rep_int.mp r1, rep_int.mp r2, w F2 H2 l2 R2 (x1.trans (C := C) x2)⟩
    | _ => exact w.elim
  | _ => exact w.elim
def rgInts (a b : Int) : List PyData := (List.range (b - a).toNat).map fun i => .int (a + (i : Nat))
theorem repL_rg {K : PySem.W.Frag} {F : Hp} (a b : Int) : RepL K F (rgV a b) (rgInts a b) := RepL.of_map (fun _ => rep_int.mpr rfl) _
def rgOk (a b : Int) : Bool := decide (a.natAbs < 2 ^ 62) && decide (b.natAbs < 2 ^ 62) && decide ((b - a).toNat ≤ 2 ^ 24)
theorem rgOk_of {a b : Int} (h : rgOk a b = true) : RgOk a b := by
  unfold rgOk at h
  simp only [Bool.and_eq_true, decide_eq_true_eq] at h
  obtain ⟨⟨h1, h2⟩, h3⟩ := h
  exact ⟨by omega, by omega, by omega, by omega, h3⟩
def rgTo (a b : Int) : Option (List PyData) := if rgOk a b then some (rgInts a b) else none
def rgGo (f : List PyData → RV) : Int × Int → M EV
  | (a, b) => match rgTo a b with
    | some ds => M.pure (f ds).ev
    | none => M.bad
theorem rgGo_eq (f : List PyData → RV) (a b : Int) : rgGo f (a, b) = match rgTo a b with
    | some ds => M.pure (f ds).ev
    | none => M.bad := rfl
def mRgL (f : List PyData → RV) (m : M (Int × Int)) : M EV := m.bind (rgGo f)
theorem de_listRg {p : Pos} {m : M (Int × Int)} (hc : X.calm = true) (hg : Gl X "list") (hm : X.mg "list" = none) (he : DR X C e m) (na : starEach [e] X.env = (false, eval e X.env) :: starEach [] X.env := by rfl) : DE X C (.Call (.Name "list" p) [e] [] pos) (mRgL (fun ds => .fr (.list ds)) m) := by
  refine ⟨fun hK => ?_⟩
  obtain ⟨t, h1, s1⟩ := he.run hK
  refine ⟨_, pe_listRg hc hg hm h1 na, fun σ F H l env g Q R w => ?_⟩
  refine s1 σ F H l env g _ R (Wp.mono (Wp.bind.mp w) (fun d env1 g1 w F1 H1 l1 R1 x1 => ?_) fun _ _ _ _ w => w)
  obtain ⟨i, j⟩ := d
  rw [rgGo_eq] at w
  cases q1 : rgTo i j with
  | none => rw [q1] at w; exact w.elim
  | some ds =>
  rw [q1] at w
  obtain ⟨ok, rfl⟩ := if_some q1
  exact ⟨rgOk_of ok, fun q hq => (KE.res (r := .fr (.list (rgInts i j))) R1 (KE.up w x1)).lst R1.sub hq (repL_rg _ _)⟩
theorem de_tupRg {p : Pos} {m : M (Int × Int)} (hc : X.calm = true) (hg : Gl X "tuple") (hm : X.mg "tuple" = none) (he : DR X C e m) (na : starEach [e] X.env = (false, eval e X.env) :: starEach [] X.env := by rfl) : DE X C (.Call (.Name "tuple" p) [e] [] pos) (mRgL (fun ds => .d (.tuple ds)) m) := by
  refine ⟨fun hK => ?_⟩
  obtain ⟨t, h1, s1⟩ := he.run hK
  refine ⟨_, pe_tupRg hc hg hm h1 na, fun σ F H l env g Q R w => ?_⟩
  refine s1 σ F H l env g _ R (Wp.mono (Wp.bind.mp w) (fun d env1 g1 w F1 H1 l1 R1 x1 => ?_) fun _ _ _ _ w => w)
  obtain ⟨i, j⟩ := d
  rw [rgGo_eq] at w
  cases q1 : rgTo i j with
  | none => rw [q1] at w; exact w.elim
  | some ds =>
  rw [q1] at w
  obtain ⟨ok, rfl⟩ := if_some q1
  exact ⟨rgOk_of ok, fun q hq => (KE.res (r := .d (.tuple (rgInts i j))) R1 (KE.up w x1)).tup R1.sub hq (repL_rg _ _)⟩
end
end DL
namespace DL
open PySem L2
theorem RepEV.ofn {C : DCx} {σ : L2.St} {F H : Hp} {l : Loc} {env : Env'} : RepEV C σ F H l env .non (.d .none) := by
  show Rep C.K F .non .none
  exact rep_none.mpr rfl
theorem RepEV.ofd {C : DCx} {σ : L2.St} {F H : Hp} {l : Loc} {env : Env'} {v : V} {x : PyData} (h : Rep C.K F v x) : RepEV C σ F H l env v (.d x) := h
/-! ### own lists, written -/
section
variable {C : DCx} {σ : L2.St} {F H : Hp} {l : Loc} {env : Env'} {g : G}
theorem Rel.put {i : Nat} {x : PyData} {a : Addr} {ds : List PyData} {vs : List V} (R : Rel C σ F H l env g) (e : env[i]? = some (Slot.own x)) (ha : σ[i]? = some (some (V.ref a))) (r : RepL C.K F vs ds) :
    Rel C σ F (upd H a (.lst vs)) l (env.set i (Slot.own (.list ds))) g ∧ Ext σ F H l env F (upd H a (.lst vs)) l (env.set i (Slot.own (.list ds))) := by
  obtain ⟨b, h1, h2, h3, h4, h5⟩ := R.own i x e
  rw [ha] at h1
  cases h1
  have oa : OwnAt σ env a := ⟨i, x, e, ha⟩
  refine ⟨⟨fun b w q => ?_, by rw [List.length_set]; exact R.len, fun j y q => ?_, fun j y q => ?_, fun j k y z b q1 q2 => ?_, fun j ns q => ?_, fun j bb q => ?_, ?_, fun b o q ns => ?_, fun b q => ?_, R.f0, R.fo, R.lo, R.l0⟩,
    ⟨.refl _, fun b q => ?_, fun b o q n1 _ => ?_, fun b q => .inl q, fun b ⟨j, y, q, hq⟩ => ?_, fun _ q => q, fun _ q => .inl q⟩⟩
  · have hb : b ≠ a := ne_of_none q h3
    rw [upd_ne hb]
    exact R.sub _ _ q
  · rcases get_set_cases q with ⟨z, w⟩ | ⟨z, q⟩
    · cases w
    · exact R.dat j y q
  · rcases get_set_cases q with ⟨z, w⟩ | ⟨z, q⟩
    · subst z
      cases w
      exact ⟨a, ha, ⟨vs, upd_same, r⟩, h3, h4, h5⟩
    · obtain ⟨b, g1, g2, g3, g4, g5⟩ := R.own j y q
      have hb : b ≠ a := fun w => z (R.inj i j x y a e q ha (by rw [← w]; exact g1))
      exact ⟨b, g1, g2.up (.refl _) fun o q => by rw [upd_ne hb]; exact q, g3, g4, g5⟩
  · have lift : ∀ {j : Nat} {y : PyData}, (env.set i (Slot.own (.list ds)))[j]? = some (Slot.own y) → ∃ y', env[j]? = some (Slot.own y') := fun q => by
      rcases get_set_cases q with ⟨z, w⟩ | ⟨z, q⟩
      · subst z; exact ⟨x, e⟩
      · exact ⟨_, q⟩
    obtain ⟨y', e1⟩ := lift q1
    obtain ⟨z', e2⟩ := lift q2
    exact R.inj j k y' z' b e1 e2
  · rcases get_set_cases q with ⟨z, w⟩ | ⟨z, q⟩
    · cases w
    · exact R.iscr j ns q
  · rcases get_set_cases q with ⟨z, w⟩ | ⟨z, q⟩
    · cases w
    · exact R.isrc j _ q
  · have q := R.src
    cases l with
    | none => cases g with
      | none => trivial
      | some s => exact q.elim
    | some p => cases g with
      | none => exact q.elim
      | some s =>
        obtain ⟨k1, k2, k3, k4, k5⟩ := q
        have n1 : p.1 ≠ a := fun z => h5 ⟨p, rfl, .inl z.symm⟩
        have n2 : p.2 ≠ a := fun z => h5 ⟨p, rfl, .inr z.symm⟩
        exact ⟨k1, by rw [upd_ne n1]; exact k2, by rw [upd_ne n2]; exact k3, k4, k5⟩
  · have hb : b ≠ a := fun z => by rw [z, h4] at q; cases q
    rw [upd_ne hb]
    exact R.old b o q ns
  · by_cases hb : b = a
    · rw [hb, upd_same]; exact nofun
    · rw [upd_ne hb]; exact R.oldd b q
  · by_cases hb : b = a
    · rw [hb, upd_same]; exact nofun
    · rw [upd_ne hb]; exact q
  · have hb : b ≠ a := fun z => n1 (by rw [z]; exact oa)
    rw [upd_ne hb]
    exact q
  · rcases get_set_cases q with ⟨z, w⟩ | ⟨z, q⟩
    · subst z
      exact ⟨_, x, e, hq⟩
    · exact ⟨j, y, q, hq⟩
end
/-- the list that slot i owns -/
def ownL (i : Nat) (env : Env') : Option (List PyData) := match env[i]? with
  | some (.own (.list ds)) => some ds
  | _ => none
theorem ownL_eq {i : Nat} {env : Env'} {ds : List PyData} (h : ownL i env = some ds) : env[i]? = some (.own (.list ds)) := by
  unfold ownL at h
  split at h
  · cases h; assumption
  · cases h
def mAppend (i : Nat) (ma : M PyData) : M EV := ma.bind fun d => fun env g =>
  match ownL i env with
  | some ds => if ds.length < sizeLine then .ok (.d .none) (env.set i (.own (.list (ds ++ [d])))) g else .bad
  | none => .bad
def mPop (i : Nat) : M EV := fun env g =>
  match ownL i env with
  | some ds => match ds[ds.length - 1]? with
    | some d => .ok (.d d) (env.set i (.own (.list ds.dropLast))) g
    | none => .bad
  | none => .bad
def mPopAt (i : Nat) (ma : M PyData) : M EV := ma.bind fun d => fun env g =>
  match d, ownL i env with
  | .int j, some ds => match seqIndex? j ds.length with
    | some k => match ds[k]? with
      | some x => if j.natAbs < 2 ^ 63 then .ok (.d x) (env.set i (.own (.list (ds.eraseIdx k)))) g else .bad
      | none => .bad
    | none => .bad
  | _, _ => .bad
/-- x.extend(e), e a list -/
def mExtend (i : Nat) (ma : M EV) : M EV := ma.bind fun a => fun env g =>
  match look env a, ownL i env with
  | some (.list es), some ds => if ds.length + es.length ≤ sizeLine then .ok (.d .none) (env.set i (.own (.list (ds ++ es)))) g else .bad
  | _, _ => .bad
theorem RepL.dropLast {K : PySem.W.Frag} {F : Hp} {ds : List PyData} {vs : List V} (h : RepL K F vs ds) : RepL K F vs.dropLast ds.dropLast := by
  rw [List.dropLast_eq_take, List.dropLast_eq_take, h.length]
  exact RepL.take _ h
theorem RepL.eraseIdx {K : PySem.W.Frag} {F : Hp} : ∀ {ds : List PyData} {vs : List V} (k : Nat), RepL K F vs ds → RepL K F (vs.eraseIdx k) (ds.eraseIdx k)
  | [], vs, k, h => by rw [repL_nil] at h; subst h; exact repL_nil.mpr rfl
  | d :: ds, vs, k, h => by
    obtain ⟨v, r, rfl, q, t⟩ := repL_cons.mp h
    cases k with
    | zero => exact t
    | succ k => exact repL_cons.mpr ⟨v, _, rfl, q, RepL.eraseIdx k t⟩
section
variable {X : Cx} {C : DCx} {o e : Expr} {es : List Expr} {apos cpos : Pos} {i : Nat}
theorem Rel.ownLst {σ : L2.St} {F H : Hp} {l : Loc} {env : Env'} {g : G} {ds : List PyData} (R : Rel C σ F H l env g) (e : env[i]? = some (.own (.list ds))) : ∃ a vs, σ[i]? = some (some (V.ref a)) ∧ H a = some (.lst vs) ∧ RepL C.K F vs ds := by
  obtain ⟨a, h1, ⟨vs, h2, r⟩, _⟩ := R.own i _ e
  exact ⟨a, vs, h1, h2, r⟩
/-- the slot's owner ahead: whatever is owned after was owned ahead, at its own address -/
theorem own_back {σ : L2.St} {F H F' H' : Hp} {l l' : Loc} {env env' : Env'} {g g' : G} {y : PyData} {a : Addr} (R : Rel C σ F H l env g) (R' : Rel C σ F' H' l' env' g') (x : Ext σ F H l env F' H' l' env') (e' : env'[i]? = some (.own y)) (ha : σ[i]? = some (some (V.ref a))) : OwnAt σ env a :=
  x.ow a ⟨i, y, e', ha⟩
/-- the receiver is a list, whatever becomes of it -/
def ownIs (i : Nat) (env : Env') : Bool := match env[i]? with
  | some (.own (.list _)) => true
  | _ => false
theorem ownIs_eq {env : Env'} (h : ownIs i env = true) : ∃ ds, env[i]? = some (.own (.list ds)) := by
  unfold ownIs at h
  split at h
  · exact ⟨_, by assumption⟩
  · cases h
def mOn {α : Type} (i : Nat) (m : M α) : M α := fun env g => if ownIs i env = true then m env g else .bad
theorem de_append (ho : PE X o (tVar i)) {m : M PyData} (he : DD X C e m)
    (hbase : attributeBase o "append" X.env (eval o X.env) = eval o X.env := by rfl)
    (hfew : ((backTo cpos (starEach [e] X.env)).all (fun x => !x.1) && (backToKw cpos (keywordEach [] X.env)).all (fun x => x.1.isSome) && decide ([e].length + ([] : List Keyword).length + (if ([] : List Keyword).isEmpty then 0 else 1) < 30)) = true := by rfl)
    (hline : (apos.endLine == cpos.line) = true := by rfl) (hs : starEach [e] X.env = (false, eval e X.env) :: starEach [] X.env := by rfl) (hplain : (backTo cpos (starEach [] X.env)).any (·.1) = false := by rfl) :
    DE X C (.Call (.Attribute o "append" apos) [e] [] cpos) (mOn i (mAppend i m)) := by
  refine ⟨fun hK => ?_⟩
  obtain ⟨t, ht, s⟩ := he.run hK
  refine ⟨_, pe_bm PySem.F.plainAttrs_list PySem.F.slot_list_append PySem.F.type_list_append (id := "list.append") (show MtR X "list.append" rAppend from mt_append) ho (pa_cons ht pa_nil hs) hbase hfew hline hs hplain, fun σ F H l env g Q R w => ?_⟩
  obtain ⟨h0, w⟩ := wp_iteR w
  obtain ⟨ds0, e0⟩ := ownIs_eq h0
  obtain ⟨a, vs0, g1, g2, g3⟩ := R.ownLst e0
  refine ⟨.ref a, g1, .inl ⟨rfl, vs0, SqL.of g2⟩, ?_⟩
  refine s σ F H l env g _ R (Wp.mono (Wp.bind.mp w) (fun d env1 gg w v F1 H1 l1 R1 x1 r1 => ?_) fun _ _ _ _ w => w)
  split at w
  · rename_i ds h1
    obtain ⟨hz, w⟩ := wp_iteR w
    have h1 := ownL_eq h1
    obtain ⟨b, vs, k1, k2, k3⟩ := R1.ownLst h1
    rw [g1] at k1
    cases k1
    obtain ⟨R2, x2⟩ := R1.put h1 g1 (RepL.append k3 (repL_cons.mpr ⟨v, [], rfl, r1, repL_nil.mpr rfl⟩))
    exact ⟨a, vs, v, rfl, rfl, k2, by rw [k3.length]; exact hz, w .non F1 _ l1 R2 (x1.trans (C := C) x2) RepEV.ofn trivial⟩
  · exact w.elim
theorem de_extend (ho : PE X o (tVar i)) {m : M EV} (he : DE X C e m)
    (hbase : attributeBase o "extend" X.env (eval o X.env) = eval o X.env := by rfl)
    (hfew : ((backTo cpos (starEach [e] X.env)).all (fun x => !x.1) && (backToKw cpos (keywordEach [] X.env)).all (fun x => x.1.isSome) && decide ([e].length + ([] : List Keyword).length + (if ([] : List Keyword).isEmpty then 0 else 1) < 30)) = true := by rfl)
    (hline : (apos.endLine == cpos.line) = true := by rfl) (hs : starEach [e] X.env = (false, eval e X.env) :: starEach [] X.env := by rfl) (hplain : (backTo cpos (starEach [] X.env)).any (·.1) = false := by rfl) :
    DE X C (.Call (.Attribute o "extend" apos) [e] [] cpos) (mOn i (mExtend i m)) := by
  refine ⟨fun hK => ?_⟩
  obtain ⟨t, ht, s⟩ := he.run hK
  refine ⟨_, pe_bm PySem.F.plainAttrs_list PySem.F.slot_list_extend PySem.F.type_list_extend (id := "list.extend") (show MtR X "list.extend" rExtend from mt_extend) ho (pa_cons ht pa_nil hs) hbase hfew hline hs hplain, fun σ F H l env g Q R w => ?_⟩
  obtain ⟨h0, w⟩ := wp_iteR w
  obtain ⟨ds0, e0⟩ := ownIs_eq h0
  obtain ⟨a, vs0, g1, g2, g3⟩ := R.ownLst e0
  refine ⟨.ref a, g1, .inl ⟨rfl, vs0, SqL.of g2⟩, ?_⟩
  refine s σ F H l env g _ R (Wp.mono (Wp.bind.mp w) (fun d env1 gg w v F1 H1 l1 R1 x1 r1 f1 => ?_) fun _ _ _ _ w => w)
  split at w
  · rename_i es' ds h2 h1
    obtain ⟨hz, w⟩ := wp_iteR w
    have h1 := ownL_eq h1
    obtain ⟨b, vs, k1, k2, k3⟩ := R1.ownLst h1
    rw [g1] at k1
    cases k1
    obtain ⟨c, us, rfl, q1, q2⟩ := (r1.look R1 h2).seq R1.sub
    obtain ⟨R2, x2⟩ := R1.put h1 g1 (RepL.append k3 q2)
    exact ⟨a, c, vs, us, rfl, rfl, k2, q1, by rw [k3.length, q2.length]; exact hz, w .non F1 _ l1 R2 (x1.trans (C := C) x2) RepEV.ofn trivial⟩
  · exact w.elim
theorem de_pop (ho : PE X o (tVar i)) (hbase : attributeBase o "pop" X.env (eval o X.env) = eval o X.env := by rfl) (hline : (apos.endLine == cpos.line) = true := by rfl) :
    DE X C (.Call (.Attribute o "pop" apos) [] [] cpos) (mPop i) := by
  refine ⟨fun hK => ?_⟩
  refine ⟨_, pe_bm0 PySem.F.plainAttrs_list PySem.F.slot_list_pop PySem.F.type_list_pop (id := "list.pop") (show MtR X "list.pop" rPop from mt_pop) ho hbase hline, fun σ F H l env g Q R w => ?_⟩
  unfold mPop at w
  split at w
  · rename_i ds h1
    split at w
    · rename_i d h2
      have h1 := ownL_eq h1
      obtain ⟨a, vs, k1, k2, k3⟩ := R.ownLst h1
      obtain ⟨v, h3, h4⟩ := RepL.get' k3 h2
      obtain ⟨R2, x2⟩ := R.put h1 k1 (RepL.dropLast k3)
      exact ⟨.ref a, k1, .inl ⟨rfl, vs, SqL.of k2⟩, a, vs, v, rfl, rfl, k2, by rw [k3.length]; exact h3, w v F _ l R2 x2 h4 trivial⟩
    · exact w.elim
  · exact w.elim
theorem de_popAt (ho : PE X o (tVar i)) {m : M PyData} (he : DD X C e m)
    (hbase : attributeBase o "pop" X.env (eval o X.env) = eval o X.env := by rfl)
    (hfew : ((backTo cpos (starEach [e] X.env)).all (fun x => !x.1) && (backToKw cpos (keywordEach [] X.env)).all (fun x => x.1.isSome) && decide ([e].length + ([] : List Keyword).length + (if ([] : List Keyword).isEmpty then 0 else 1) < 30)) = true := by rfl)
    (hline : (apos.endLine == cpos.line) = true := by rfl) (hs : starEach [e] X.env = (false, eval e X.env) :: starEach [] X.env := by rfl) (hplain : (backTo cpos (starEach [] X.env)).any (·.1) = false := by rfl) :
    DE X C (.Call (.Attribute o "pop" apos) [e] [] cpos) (mOn i (mPopAt i m)) := by
  refine ⟨fun hK => ?_⟩
  obtain ⟨t, ht, s⟩ := he.run hK
  refine ⟨_, pe_bm PySem.F.plainAttrs_list PySem.F.slot_list_pop PySem.F.type_list_pop (id := "list.pop") (show MtR X "list.pop" rPopAt from mt_popAt) ho (pa_cons ht pa_nil hs) hbase hfew hline hs hplain, fun σ F H l env g Q R w => ?_⟩
  obtain ⟨h0, w⟩ := wp_iteR w
  obtain ⟨ds0, e0⟩ := ownIs_eq h0
  obtain ⟨a, vs0, g1, g2, g3⟩ := R.ownLst e0
  refine ⟨.ref a, g1, .inl ⟨rfl, vs0, SqL.of g2⟩, ?_⟩
  refine s σ F H l env g _ R (Wp.mono (Wp.bind.mp w) (fun d env1 gg w v F1 H1 l1 R1 x1 r1 => ?_) fun _ _ _ _ w => w)
  split at w
  · rename_i j ds h1
    split at w
    · rename_i k h2
      split at w
      · rename_i x h3
        obtain ⟨b12, w⟩ := wp_iteR w
        have b1 : -(2 ^ 63) ≤ j := by omega
        have b2 : j < 2 ^ 63 := by omega
        have h1 := ownL_eq h1
        obtain ⟨b, vs, k1, k2, k3⟩ := R1.ownLst h1
        rw [g1] at k1
        cases k1
        cases rep_int.mp r1
        obtain ⟨u, h4, h5⟩ := RepL.get' k3 h3
        obtain ⟨R2, x2⟩ := R1.put h1 g1 (RepL.eraseIdx k k3)
        exact ⟨a, vs, j, k, u, rfl, rfl, k2, b1, b2, by rw [k3.length]; exact h2, h4, w u F1 _ l1 R2 (x1.trans (C := C) x2) h5 trivial⟩
      · exact w.elim
    · exact w.elim
  · exact w.elim
end
/-! ### xs.index(y) -/
def indexD (ds : List PyData) (d : PyData) : Option Nat := ds.findIdx? fun z => PyData.eqv z d
def pyIndex (x y : PyData) : Option RV := match x with
  | .list ds => if SeqAt.shaped (.list ds) && SeqAt.shaped y then (indexD ds y).map fun j : Nat => oneI (j : Nat) else none
  | _ => none
section
variable {X : Cx} {C : DCx} {o e : Expr} {es : List Expr} {apos cpos : Pos} {i : Nat}
def rIdx (K : PySem.W.Frag) : V → List V → Hp → VK → Prop := fun x xs H Q => ∃ (F : Hp) (y : V) (d : PyData) (ds : List PyData) (j : Nat), xs = [y] ∧ Same F H ∧ Bor K F H x (.list ds) ∧ Bor K F H y d ∧
  SeqAt.shaped (.list ds) = true ∧ SeqAt.shaped d = true ∧ indexD ds d = some j ∧ Q (.int (j : Nat)) H
theorem mt_idx (hu : X.A.units + 65 < cLine) : MtR X "list.index" (rIdx X.K) := by
  intro pins s σ H x xs v us Q I rx rxs h
  obtain ⟨F, y, d, ds, j, rfl, hsm, hl, hy, sl, sd, hj, q⟩ := h
  cases rxs with
  | cons ry rt =>
    rename_i uy ut
    cases rt
    obtain ⟨bs, r1⟩ := hy.reads I hsm ry
    obtain ⟨a, vs, rfl, hs, rl⟩ := hl.seq hsm
    cases rx
    have hxs : PyData.canLayAll0 ds = true := SeqAt.canLay_of_shaped sl
    obtain ⟨its, rv, ⟨⟨cls, dd, data, sls⟩, n, ho, hc, hdn, hdt⟩, hlen⟩ := I.list (SqL.of hs)
    simp only at hc hdt
    subst hc hdt
    obtain ⟨as, h4⟩ := RepL.reads I hsm ds vs its rl rv
    have hn : its.length = ds.length := SeqAt.ReadsAll.length ds its as h4
    have hmap : its.map (SeqAt.readOf s.heap) = ds := SeqAt.readsAll_map ds its as hxs h4
    have hvl := rv.length
    have hsl := sizeLine_eq
    have hjd : j < ds.length := (List.findIdx?_eq_some_iff_getElem.mp hj).choose
    have hjp := (List.findIdx?_eq_some_iff_getElem.mp hj).choose_spec
    have hjl : j < its.length := by omega
    have rd : ∀ (m : Nat) (hm : m < its.toArray.size) (hd : m < ds.length), SeqAt.readOf s.heap its.toArray[m] = ds[m] := by
      intro m hm hd
      have hml : m < its.length := by simpa using hm
      have e1 : (its.map (SeqAt.readOf s.heap))[m]? = some (SeqAt.readOf s.heap its[m]) := by rw [List.getElem?_map, List.getElem?_eq_getElem hml]; rfl
      rw [hmap, List.getElem?_eq_getElem hd] at e1
      have e2 := Option.some.inj e1
      simpa using e2.symm
    refine call_meets PySem.F.slot_list_index ⟨_, ho, rfl⟩ PySem.F.entry_list_index (PySem.F.args_list_index_2 _ _)
      (SeqAt.list_indexAt a its.toArray n dd sls uy (fun u => PyData.eqv (SeqAt.readOf s.heap u) d) j (by simpa using hjl) (by have := line63; omega) ?_ ?_) ⟨ho, SeqAt.items_eqAt (vs := its.toArray) (show ReadsAll s.heap its.toArray.toList ds as from h4) r1 hxs (SeqAt.canLay_of_shaped sd) (roomIn sd hu), ⟨.int (j : Nat), H, I.tok _, ⟨_, rfl⟩, q⟩⟩
    · change PyData.eqv (SeqAt.readOf s.heap its.toArray[j]) d = true
      rw [rd j _ hjd]
      exact hjp.1
    · intro m hm hmj
      change PyData.eqv (SeqAt.readOf s.heap its.toArray[m]) d = false
      rw [rd m hm (by omega)]
      have := hjp.2 m hmj
      simpa using this
def mIdx (ma mb : M EV) : M EV := ma.bind fun a => fun env g => match look env a with
  | some (.list _) => (mb.bind fun b => fun env g => match look env a, look env b with
    | some x, some y => M.opt ((pyIndex x y).map RV.ev) env g
    | _, _ => .bad) env g
  | _ => .bad
theorem de_index (hu : X.A.units + 65 < cLine) {ma mb : M EV} (ho : DE X C o ma) (he : DE X C e mb)
    (hbase : attributeBase o "index" X.env (eval o X.env) = eval o X.env := by rfl)
    (hfew : ((backTo cpos (starEach [e] X.env)).all (fun x => !x.1) && (backToKw cpos (keywordEach [] X.env)).all (fun x => x.1.isSome) && decide ([e].length + ([] : List Keyword).length + (if ([] : List Keyword).isEmpty then 0 else 1) < 30)) = true := by rfl)
    (hline : (apos.endLine == cpos.line) = true := by rfl) (hs : starEach [e] X.env = (false, eval e X.env) :: starEach [] X.env := by rfl) (hplain : (backTo cpos (starEach [] X.env)).any (·.1) = false := by rfl) :
    DE X C (.Call (.Attribute o "index" apos) [e] [] cpos) (mIdx ma mb) := by
  refine ⟨fun hK => ?_⟩
  obtain ⟨ta, h1, s1⟩ := ho.run hK
  obtain ⟨tb, h2, s2⟩ := he.run hK
  refine ⟨_, pe_bm PySem.F.plainAttrs_list PySem.F.slot_list_index PySem.F.type_list_index (mt_idx hu) h1 (pa_cons h2 pa_nil hs) hbase hfew hline hs hplain, fun σ F H l env g Q R w => ?_⟩
  refine s1 σ F H l env g _ R (Wp.mono (Wp.bind.mp w) (fun a env1 g1 w v F1 H1 l1 R1 x1 r1 f1 => ?_) fun _ _ _ _ w => w)
  split at w
  · rename_i ds0 e0
    obtain ⟨c, us, rfl, q1, q2⟩ := (r1.look R1 e0).seq R1.sub
    refine ⟨.inl ⟨rfl, us, SqL.of q1⟩, ?_⟩
    refine s2 σ F1 H1 l1 env1 g1 _ R1 (Wp.mono (Wp.bind.mp w) (fun b env2 g2 w u F2 H2 l2 R2 x2 r2 f2 => ?_) fun _ _ _ _ w => w)
    split at w
    · rename_i x y e1 e2
      cases hg : pyIndex x y with
      | none => rw [hg] at w; exact w.elim
      | some ev =>
        rw [hg] at w
        unfold pyIndex at hg
        split at hg
        · rename_i ds
          have z : (SeqAt.shaped (.list ds) && SeqAt.shaped y) = true ∧ (indexD ds y).map (fun j : Nat => oneI (j : Nat)) = some ev := by
            by_cases h : (SeqAt.shaped (.list ds) && SeqAt.shaped y) = true
            · rw [if_pos h] at hg; exact ⟨h, hg⟩
            · rw [if_neg h] at hg; cases hg
          obtain ⟨h3, hg⟩ := z
          obtain ⟨j, h4, rfl⟩ := Option.map_eq_some_iff.mp hg
          rw [Bool.and_eq_true] at h3
          have b1 := (r1.up x2).look R2 e1
          have b2 := r2.look R2 e2
          rw [hK] at b1 b2
          exact ⟨F2, u, y, ds, j, rfl, R2.sub, b1, b2, h3.1, h3.2, h4, (KE.res (r := oneI j) R2 (KE.up w (x1.trans (C := C) x2))).val R2.sub (rep_int.mpr rfl)⟩
        · cases hg
    · exact w.elim
  · exact w.elim
end
end DL
namespace DL
open PySem L2
/-! ### statements -/
inductive Fl where
  | nx
  | bk
  | ct
  | rt (v : EV)
def KS (C : DCx) (F : Hp) (D : Ends) : Fl → Env' → G → Prop := fun fl env' g' => ∀ σ' F' H' l', Rel C σ' F' H' l' env' g' → Same F F' → match fl with
  | .nx => D.nx σ' H'
  | .bk => D.bk σ' H'
  | .ct => D.ct σ' H'
  | .rt ev => ∀ v, RepEV C σ' F' H' l' env' v ev → D.rt v H'
theorem KS.up {C : DCx} {F F1 : Hp} {D : Ends} {fl : Fl} {e : Env'} {g : G} (h : KS C F D fl e g) (s : Same F F1) : KS C F1 D fl e g := fun σ' F' H' l' R s' => h σ' F' H' l' R (s.trans s')
def KXS (C : DCx) : Str → PyData → Env' → G → Prop := fun c x env' g' => ∀ σ', KX C σ' c x env' g'
def SimS (C : DCx) (t : TS) (m : M Fl) : Prop := ∀ (σ : L2.St) (F H : Hp) (l : Loc) (env : Env') (g : G) (D : Ends), Rel C σ F H l env g → Wp (m env g) (KS C F D) (KXS C) → t D σ H
structure DS (X : Cx) (C : DCx) (st : Stmt) (m : M Fl) : Prop where
  run : C.K = X.K → ∃ t, PS X st t ∧ SimS C t m
structure DSs (X : Cx) (C : DCx) (st : List Stmt) (m : M Fl) : Prop where
  run : C.K = X.K → ∃ t, PSs X st t ∧ SimS C t m
/-- an expression within a statement: what an exception is wished to be is the same at all slots -/
theorem Wp.xs {α : Type} {C : DCx} {σ : L2.St} {r : R α} {K : α → Env' → G → Prop} (h : Wp r K (KXS C)) : Wp r K (KX C σ) := h.mono (fun _ _ _ w => w) fun c x e g w => w σ
def mNx : M Fl := M.pure .nx
def mSeqS (a b : M Fl) : M Fl := a.bind fun fl => match fl with
  | .nx => b
  | .bk => M.pure .bk
  | .ct => M.pure .ct
  | .rt v => M.pure (.rt v)
def mDrop (m : M EV) : M Fl := m.bind fun _ => M.pure .nx
/-- what is given back -/
def mRet (m : M EV) : M Fl := m.bind fun ev => match ev with
  | .bo _ => M.bad
  | ev => M.pure (.rt ev)
/-- a name given back: what it owns goes along -/
def mRetV (i : Nat) : M Fl := fun env g => match env[i]? with
  | some (.d x) => .ok (.rt (.d x)) env g
  | some (.own x) => .ok (.rt (.fr x)) (env.set i .un) g
  | some (.src b) => .ok (.rt (.src b)) env g
  | _ => .bad
def mIfS (c : M Bool) (a b : M Fl) : M Fl := c.bind fun x => if x then a else b
def slotOf : EV → Option Slot
  | .d x => some (.d x)
  | .fr x => some (.own x)
  | .src b => some (.src b)
  | .scr ns => some (.scr ns)
  | .bo _ => none
def mSet (i : Nat) (m : M EV) : M Fl := m.bind fun ev => fun env g => match slotOf ev with
  | some s => .ok .nx (env.set i s) g
  | none => .bad
def mAsgP (p : Pat) (m : M PyData) : M Fl := m.bind fun d => fun env g => match asg p d env with
  | some env' => .ok .nx env' g
  | none => .bad
/-- a, b = e1, e2 -/
def mPar (i j : Nat) (m : M (List EV)) : M Fl := m.bind fun evs => fun env g => match evs with
  | [.d x, .d y] => .ok .nx ((env.set i (.d x)).set j (.d y)) g
  | _ => .bad
def mPar3 (i j k : Nat) (m : M (List EV)) : M Fl := m.bind fun evs => fun env g => match evs with
  | [.d x, .d y, .d z] => .ok .nx (((env.set i (.d x)).set j (.d y)).set k (.d z)) g
  | _ => .bad
def forD (p : Pat) (mb : M Fl) : List PyData → M Fl
  | [] => mNx
  | x :: xs => fun e g => match asg p x e with
    | none => .bad
    | some e1 => (mb.bind fun fl => match fl with
      | .nx => forD p mb xs
      | .ct => forD p mb xs
      | .bk => mNx
      | .rt v => M.pure (.rt v)) e1 g
def mFor (p : Pat) (mi : M (List PyData)) (mb : M Fl) : M Fl := mi.bind fun xs => forD p mb xs
def whileD (mt : M Bool) (mb : M Fl) : Nat → M Fl
  | 0 => M.bad
  | n + 1 => mt.bind fun b => if b then mb.bind fun fl => match fl with
      | .nx => whileD mt mb n
      | .ct => whileD mt mb n
      | .bk => mNx
      | .rt v => M.pure (.rt v)
    else mNx
theorem Rel.forget {C : DCx} {σ : L2.St} {F H : Hp} {l : Loc} {env : Env'} {g : G} (R : Rel C σ F H l env g) (i : Nat) : Rel C σ F H l (env.set i .un) g := by
  have un : ∀ {j : Nat} {s : Slot}, (env.set i .un)[j]? = some s → s ≠ .un → env[j]? = some s := fun h n => by
    rcases get_set_cases h with ⟨z, w⟩ | ⟨z, q⟩
    · exact absurd w.symm n
    · exact q
  exact ⟨R.sub, by rw [List.length_set]; exact R.len, fun j x h => R.dat j x (un h (by simp)), fun j x h => R.own j x (un h (by simp)), fun j k x y a h1 h2 => R.inj j k x y a (un h1 (by simp)) (un h2 (by simp)), fun j ns h => R.iscr j ns (un h (by simp)), fun j b h => R.isrc j b (un h (by simp)), R.src, R.old, R.oldd, R.f0, R.fo, R.lo, R.l0⟩
/-- a slot gets a value -/
theorem Rel.sets {C : DCx} {σ : L2.St} {F H : Hp} {l : Loc} {env : Env'} {g : G} {v : V} {ev : EV} {s : Slot} (R : Rel C σ F H l env g) (i : Nat) (r : RepEV C σ F H l env v ev) (e : slotOf ev = some s) : Rel C (σ.set i (some v)) F H l (env.set i s) g := by
  have base := R.forget i
  have lt : ∀ {s : Slot}, (env.set i s)[i]? ≠ none → i < env.length := fun h => by
    refine Classical.byContradiction fun z => h ?_
    simp; omega
  have at_ : ∀ {j : Nat} {s s' : Slot}, (env.set i s)[j]? = some s' → (i = j ∧ s = s' ∧ (σ.set i (some v))[j]? = some (some v)) ∨ (i ≠ j ∧ env[j]? = some s' ∧ (σ.set i (some v))[j]? = σ[j]?) := fun {j s s'} h => by
    rcases get_set_cases h with ⟨z, w⟩ | ⟨z, q⟩
    · subst z
      refine .inl ⟨rfl, w, ?_⟩
      have hl : i < env.length := lt (by rw [h]; simp)
      rw [List.getElem?_set_self (by rw [R.len]; exact hl)]
    · exact .inr ⟨z, q, get_set_ne z⟩
  cases ev with
  | d x =>
    cases e
    exact R.setd i r
  | bo _ => cases e
  | fr x =>
    cases e
    obtain ⟨a, rfl, h1, h2, h3, h4, h5⟩ := r
    refine ⟨R.sub, by rw [List.length_set, List.length_set]; exact R.len, fun j y h => ?_, fun j y h => ?_, fun j k y z b q1 q2 w1 w2 => ?_, fun j ns h => ?_, fun j bb h => ?_, R.src, R.old, R.oldd, R.f0, R.fo, R.lo, R.l0⟩
    · rcases at_ h with ⟨_, w, _⟩ | ⟨_, q, k⟩
      · cases w
      · rw [k]; exact R.dat j y q
    · rcases at_ h with ⟨_, w, k⟩ | ⟨_, q, k⟩
      · cases w; exact ⟨a, k, h1, h2, h3, h4⟩
      · rw [k]; exact R.own j y q
    · rcases at_ q1 with ⟨e1, _, k1⟩ | ⟨e1, p1, k1⟩
      · rcases at_ q2 with ⟨e2, _, k2⟩ | ⟨e2, p2, k2⟩
        · rw [← e1, ← e2]
        · rw [k1] at w1
          cases w1
          exact absurd ⟨k, z, p2, by rw [← k2]; exact w2⟩ h5
      · rcases at_ q2 with ⟨e2, _, k2⟩ | ⟨e2, p2, k2⟩
        · rw [k2] at w2
          cases w2
          exact absurd ⟨j, y, p1, by rw [← k1]; exact w1⟩ h5
        · exact R.inj j k y z b p1 p2 (by rw [← k1]; exact w1) (by rw [← k2]; exact w2)
    · rcases at_ h with ⟨_, w, _⟩ | ⟨_, q, k⟩
      · cases w
      · rw [k]; exact R.iscr j ns q
    · rcases at_ h with ⟨_, w, _⟩ | ⟨_, q, k⟩
      · cases w
      · rw [k]; exact R.isrc j _ q
  | src b =>
    cases e
    obtain ⟨d, c, h1, rfl⟩ := r
    refine ⟨R.sub, by rw [List.length_set, List.length_set]; exact R.len, fun j y h => ?_, fun j y h => ?_, fun j k y z b q1 q2 w1 w2 => ?_, fun j ns h => ?_, fun j bb h => ?_, R.src, R.old, R.oldd, R.f0, R.fo, R.lo, R.l0⟩
    · rcases at_ h with ⟨_, w, _⟩ | ⟨_, q, k⟩
      · cases w
      · rw [k]; exact R.dat j y q
    · rcases at_ h with ⟨_, w, k⟩ | ⟨_, q, k⟩
      · cases w
      · rw [k]; exact R.own j y q
    · rcases at_ q1 with ⟨e1, w, k1⟩ | ⟨e1, p1, k1⟩
      · cases w
      · rcases at_ q2 with ⟨e2, w, k2⟩ | ⟨e2, p2, k2⟩
        · cases w
        · exact R.inj j k y z b p1 p2 (by rw [← k1]; exact w1) (by rw [← k2]; exact w2)
    · rcases at_ h with ⟨_, w, _⟩ | ⟨_, q, k⟩
      · cases w
      · rw [k]; exact R.iscr j ns q
    · rcases at_ h with ⟨_, w, k⟩ | ⟨_, q, k⟩
      · cases w; exact ⟨d, c, h1, k⟩
      · rw [k]; exact R.isrc j _ q
  | scr ns =>
    cases e
    obtain ⟨a, rfl, h1⟩ := r
    refine ⟨R.sub, by rw [List.length_set, List.length_set]; exact R.len, fun j y h => ?_, fun j y h => ?_, fun j k y z b q1 q2 w1 w2 => ?_, fun j ns' h => ?_, fun j bb h => ?_, R.src, R.old, R.oldd, R.f0, R.fo, R.lo, R.l0⟩
    · rcases at_ h with ⟨_, w, _⟩ | ⟨_, q, k⟩
      · cases w
      · rw [k]; exact R.dat j y q
    · rcases at_ h with ⟨_, w, k⟩ | ⟨_, q, k⟩
      · cases w
      · rw [k]; exact R.own j y q
    · rcases at_ q1 with ⟨e1, w, k1⟩ | ⟨e1, p1, k1⟩
      · cases w
      · rcases at_ q2 with ⟨e2, w, k2⟩ | ⟨e2, p2, k2⟩
        · cases w
        · exact R.inj j k y z b p1 p2 (by rw [← k1]; exact w1) (by rw [← k2]; exact w2)
    · rcases at_ h with ⟨_, w, k⟩ | ⟨_, q, k⟩
      · cases w; exact ⟨a, k, h1⟩
      · rw [k]; exact R.iscr j ns' q
    · rcases at_ h with ⟨_, w, k⟩ | ⟨_, q, k⟩
      · cases w
      · rw [k]; exact R.isrc j _ q
section
variable {X : Cx} {C : DCx} {e : Expr} {es : List Expr} {st : Stmt} {rest : List Stmt} {pos : Pos}
theorem dss_nil : DSs X C [] mNx := ⟨fun _ => ⟨_, pss_nil, fun σ F H l env g D R w => w σ F H l R (.refl _)⟩⟩
theorem simSeq {t u : TS} {a b : M Fl} (ha : SimS C t a) (hb : SimS C u b) : SimS C (tSeq t u) (mSeqS a b) := by
  intro σ F H l env g D R w
  refine ha σ F H l env g { D with nx := u D } R (Wp.mono (Wp.bind.mp w) (fun fl env1 g1 w σ1 F1 H1 l1 R1 sF => ?_) fun _ _ _ _ w => w)
  cases fl with
  | nx => exact hb σ1 F1 H1 l1 env1 g1 D R1 (w.mono (fun _ _ _ w => w.up sF) fun _ _ _ _ w => w)
  | bk => exact w σ1 F1 H1 l1 R1 sF
  | ct => exact w σ1 F1 H1 l1 R1 sF
  | rt v => exact w σ1 F1 H1 l1 R1 sF
theorem dss_cons {a b : M Fl} (ha : DS X C st a) (hb : DSs X C rest b) : DSs X C (st :: rest) (mSeqS a b) := by
  refine ⟨fun hK => ?_⟩
  obtain ⟨t, h1, s1⟩ := ha.run hK
  obtain ⟨u, h2, s2⟩ := hb.run hK
  exact ⟨_, pss_cons h1 h2, simSeq s1 s2⟩
theorem dss_one {a : M Fl} (ha : DS X C st a) : DSs X C [st] a := ⟨fun hK => let ⟨t, h1, s1⟩ := ha.run hK; ⟨_, pss_one h1, s1⟩⟩
theorem ds_pass : DS X C (.Pass pos) mNx := ⟨fun _ => ⟨_, ps_pass, fun σ F H l env g D R w => w σ F H l R (.refl _)⟩⟩
theorem ds_break : DS X C (.Break pos) (M.pure .bk) := ⟨fun _ => ⟨_, ps_break, fun σ F H l env g D R w => w σ F H l R (.refl _)⟩⟩
theorem ds_cont : DS X C (.Continue pos) (M.pure .ct) := ⟨fun _ => ⟨_, ps_continue, fun σ F H l env g D R w => w σ F H l R (.refl _)⟩⟩
theorem ds_doc {x : Str} {j : Nat} {p p' : Pos} : DS X C (.Expr (.Constant (.str x) j p) p') mNx := ⟨fun _ => ⟨_, ps_doc, fun σ F H l env g D R w => w σ F H l R (.refl _)⟩⟩
theorem ds_never : DS X C st M.bad := ⟨fun _ => ⟨_, ps_never, fun σ F H l env g D R w => w.elim⟩⟩
theorem dss_never : DSs X C rest M.bad := ⟨fun _ => ⟨_, pss_never, fun σ F H l env g D R w => w.elim⟩⟩
theorem ds_expr {m : M EV} (h : DE X C e m) (hs : swapsWith e none pos.line X.env = pure false := by rfl) : DS X C (.Expr e pos) (mDrop m) := by
  refine ⟨fun hK => ?_⟩
  obtain ⟨t, h1, s1⟩ := h.run hK
  refine ⟨_, ps_expr h1 hs, fun σ F H l env g D R w => ?_⟩
  exact s1 σ F H l env g _ R (Wp.mono (Wp.bind.mp w).xs (fun ev env1 g1 w v F1 H1 l1 R1 x1 r1 f1 => w σ F1 H1 l1 R1 x1.fs) fun _ _ _ _ w => w)
theorem ds_ret {m : M EV} (h : DE X C e m) : DS X C (.Return (some e) pos) (mRet m) := by
  refine ⟨fun hK => ?_⟩
  obtain ⟨t, h1, s1⟩ := h.run hK
  refine ⟨_, ps_ret h1, fun σ F H l env g D R w => ?_⟩
  refine s1 σ F H l env g _ R (Wp.mono (Wp.bind.mp w).xs (fun ev env1 g1 w v F1 H1 l1 R1 x1 r1 f1 => ?_) fun _ _ _ _ w => w)
  cases ev with
  | bo i => exact w.elim
  | _ => exact w σ F1 H1 l1 R1 x1.fs v r1
theorem ds_retV {i : Nat} (h : PE X e (tVar i)) : DS X C (.Return (some e) pos) (mRetV i) := by
  refine ⟨fun hK => ⟨_, ps_ret h, fun σ F H l env g D R w => ?_⟩⟩
  unfold mRetV at w
  split at w
  · rename_i x q
    obtain ⟨v, h1, h2⟩ := R.dat i x q
    exact ⟨v, h1, w σ F H l R (.refl _) v h2⟩
  · rename_i x q
    obtain ⟨a, h1, h2, h3, h4, h5⟩ := R.own i x q
    refine ⟨_, h1, w σ F H l (R.forget i) (.refl _) (V.ref a) ⟨a, rfl, h2, h3, h4, h5, fun ⟨j, y, q1, q2⟩ => ?_⟩⟩
    rcases get_set_cases q1 with ⟨z, w⟩ | ⟨z, q3⟩
    · cases w
    · exact z (R.inj i j x y a q q3 h1 q2)
  · rename_i q
    obtain ⟨d, c, h1, h2⟩ := R.isrc i _ q
    exact ⟨_, h2, w σ F H l R (.refl _) _ ⟨d, c, h1, rfl⟩⟩
  · exact w.elim
theorem ds_retN : DS X C (.Return none pos) (M.pure (.rt (.d .none))) := ⟨fun _ => ⟨_, ps_retN, fun σ F H l env g D R w => w σ F H l R (.refl _) .non RepEV.ofn⟩⟩
theorem ds_if {c : Expr} {a b : List Stmt} {mc : M Bool} {ma mb : M Fl} (hc : DT X C c mc) (ha : DSs X C a ma) (hb : DSs X C b mb) : DS X C (.If c a b pos) (mIfS mc ma mb) := by
  refine ⟨fun hK => ?_⟩
  obtain ⟨tc, h0, s0⟩ := hc.run hK
  obtain ⟨ta, h1, s1⟩ := ha.run hK
  obtain ⟨tb, h2, s2⟩ := hb.run hK
  refine ⟨_, ps_if h0 h1 h2, fun σ F H l env g D R w => ?_⟩
  refine s0 σ F H l env g _ R (Wp.mono (Wp.bind.mp w).xs (fun c env1 g1 w F1 H1 l1 R1 x1 => ?_) fun _ _ _ _ w => w)
  cases c with
  | true => exact s1 σ F1 H1 l1 env1 g1 D R1 (w.mono (fun _ _ _ w => w.up x1.fs) fun _ _ _ _ w => w)
  | false => exact s2 σ F1 H1 l1 env1 g1 D R1 (w.mono (fun _ _ _ w => w.up x1.fs) fun _ _ _ _ w => w)
theorem simSet {t : TE} {m : M EV} {i : Nat} (s1 : SimE C t m) : SimS C (tAsg t (gName i)) (mSet i m) := by
  intro σ F H l env g D R w
  refine s1 σ F H l env g _ R (Wp.mono (Wp.bind.mp w).xs (fun ev env1 g1 w v F1 H1 l1 R1 x1 r1 f1 => ?_) fun _ _ _ _ w => w)
  split at w
  · rename_i s q
    exact w _ F1 H1 l1 (R1.sets i r1 q) x1.fs
  · exact w.elim
theorem ds_set {i : Nat} {x : Str} {m : M EV} {pos' : Pos} (hN : X.N.Nodup) (hi : X.N[i]? = some x) (hx : L2.Loc X.env.scope x) (h : DE X C e m) (hs : swapsWith e (some (.Name x pos')) pos.line X.env = pure false := by rfl) (hf : X.fn x = true ∨ X.env.scope.names.lookup x = some .local := by first | exact .inl rfl | exact .inr rfl | assumption) :
    DS X C (.Assign [.Name x pos'] e pos) (mSet i m) := by
  refine ⟨fun hK => ?_⟩
  obtain ⟨t, h1, s1⟩ := h.run hK
  exact ⟨_, ps_set hN hi hx h1 hs hf, simSet s1⟩
theorem ds_setC {i : Nat} {y : Str} {py : Pos} {elt tg iter : Expr} {ifs : List Expr} {scope : Scope} {own : List (Str × Nat)} {spos : Pos} {p : Pat} {mi : M (List PyData)} {mt : M Bool} {me : M PyData} (hc : X.calm = true) (hN : X.N.Nodup)
    (hy : X.N[i]? = some y) (hyl : X.env.scope.names.lookup y = some .local) (hsw : swapsWith (.ListComp elt [⟨tg, iter, ifs, 0⟩] scope pos) (some (.Name y py)) spos.line X.env = pure true) (hi : DI X C tg iter mi) (ok : BlkOk X.N X.env.scope scope own)
    (hg : ∀ (s : Shared) (H : Hp) (A : Addr) (cl : List (Str × Addr)) (fp : List Addr), DG (X.blk s H scope (compEnvC scope cl A X.env) fp) C.calm tg p)
    (ht : ∀ (s : Shared) (H : Hp) (A : Addr) (cl : List (Str × Addr)) (fp : List Addr), DTs (X.blk s H scope (compEnvC scope cl A X.env) fp) C.calm ifs mt)
    (he : ∀ (s : Shared) (H : Hp) (A : Addr) (cl : List (Str × Addr)) (fp : List Addr), DD (X.blk s H scope (compEnvC scope cl A X.env) fp) C.calm elt me)
    (hp : (p.idx.all fun i => decide (i ∈ own.map (·.2))) = true) (hs : ∀ x, foldedSetIterable iter X.env x = pure x := by intro _; rfl) :
    DS X C (.Assign [.Name y py] (.ListComp elt [⟨tg, iter, ifs, 0⟩] scope pos) spos) (mSet i (mComp p (own.map (·.2)) mi mt me)) := by
  refine ⟨fun hK => ?_⟩
  obtain ⟨wi, h1, s1⟩ := hi.run hK
  refine ⟨_, ps_setLc hc hN hy hyl hsw h1 ok (fun s H A cl fp => (hg s H A cl fp).pg hK) (fun s H A cl fp => (ht s H A cl fp).pt hK) (fun s H A cl fp => (he s H A cl fp).pe hK) hs, simSet (simComp s1 simG_of simT_of simD_of fun i hi => ?_)⟩
  exact of_decide_eq_true (List.all_eq_true.mp hp i hi)
theorem ds_setCF {i : Nat} {y : Str} {py : Pos} {elt tg iter : Expr} {ifs : List Expr} {scope : Scope} {own : List (Str × Nat)} {spos : Pos} {p : Pat} {mi : M (List PyData)} {mt : M Bool} {me : M PyData} (hc : X.calm = true) (hN : X.N.Nodup)
    (hy : X.N[i]? = some y) (hyl : X.env.scope.names.lookup y = some .local) (hsw : swapsWith (.ListComp elt [⟨tg, iter, ifs, 0⟩] scope pos) (some (.Name y py)) spos.line X.env = pure true) (hi : DI X C tg iter mi) (ok : BlkOk X.N X.env.scope scope own)
    (hg : ∀ (s : Shared) (H : Hp) (A : Addr) (cl : List (Str × Addr)) (fp : List Addr), DG (X.blk s H scope (compEnvC scope cl A X.env) fp) C.calm tg p)
    (ht : ∀ (s : Shared) (H : Hp) (A : Addr) (cl : List (Str × Addr)) (fp : List Addr), DTs (X.blk s H scope (compEnvC scope cl A X.env) fp) C.calm ifs mt)
    (he : ∀ (s : Shared) (H : Hp) (A : Addr) (cl : List (Str × Addr)) (fp : List Addr), DD (X.blk s H scope (compEnvC scope cl A X.env) fp) C.calm elt me)
    (hp : (p.idx.all fun i => decide (i ∈ own.map (·.2))) = true) (hs : ∀ x, foldedSetIterable iter X.env x = pure x := by intro _; rfl) :
    DS X C (.Assign [.Name y py] (.ListComp elt [⟨tg, iter, ifs, 0⟩] scope pos) spos) (mSet i (mArg (mComp p (own.map (·.2)) mi mt me))) := by
  refine ⟨fun hK => ?_⟩
  obtain ⟨wi, h1, s1⟩ := hi.run hK
  refine ⟨_, ps_setLc hc hN hy hyl hsw h1 ok (fun s H A cl fp => (hg s H A cl fp).pg hK) (fun s H A cl fp => (ht s H A cl fp).pt hK) (fun s H A cl fp => (he s H A cl fp).pe hK) hs, simSet (simArg (simComp s1 simG_of simT_of simD_of fun i hi => ?_))⟩
  exact of_decide_eq_true (List.all_eq_true.mp hp i hi)
theorem ds_asgP {tg : Expr} {p : Pat} {m : M PyData} (h : DD X C e m) (hg : DG X C tg p) (hs : swapsWithSole [tg] e pos.line X.env = pure false := by rfl) (hw : swappedStores [tg] e X.env = pure none := by rfl)
    (h1 : (assignEach [tg] X.env).map (·.2) = [assign tg X.env] := by rfl) : DS X C (.Assign [tg] e pos) (mAsgP p m) := by
  refine ⟨fun hK => ?_⟩
  obtain ⟨t, k1, s1⟩ := h.run hK
  obtain ⟨g, k2, s2⟩ := hg.run hK
  refine ⟨_, ps_asg k1 k2 hs hw h1, fun σ F H l env gs D R w => ?_⟩
  refine s1 σ F H l env gs _ R (Wp.mono (Wp.bind.mp w).xs (fun d env1 g1 w v F1 H1 l1 R1 x1 r1 => ?_) fun _ _ _ _ w => w)
  split at w
  · rename_i env2 q
    exact s2 σ F1 H1 l1 env1 env2 g1 v d _ R1 r1 q fun σ2 R2 _ _ => w σ2 F1 H1 l1 R2 x1.fs
  · exact w.elim
theorem ds_par {i j : Nat} {x y : Str} {a b : Expr} {m : M (List EV)} {px py pt : Pos} {kt k2 : Nat} {pt2 : Pos} (hc : X.calm = true) (hN : X.N.Nodup) (hi : X.N[i]? = some x) (hj : X.N[j]? = some y) (hij : i ≠ j)
    (hx : X.env.scope.names.lookup x = some .local) (hy : X.env.scope.names.lookup y = some .local) (h : DA X C [a, b] m)
    (hw : swappedStores [.Tuple [.Name x px, .Name y py] kt pt] (.Tuple [a, b] k2 pt2) X.env = pure (some [x, y]))
    (hs : swapsWithSole [.Tuple [.Name x px, .Name y py] kt pt] (.Tuple [a, b] k2 pt2) pos.line X.env = pure false := by rfl) :
    DS X C (.Assign [.Tuple [.Name x px, .Name y py] kt pt] (.Tuple [a, b] k2 pt2) pos) (mPar i j m) := by
  refine ⟨fun hK => ?_⟩
  obtain ⟨t, k1, s1⟩ := h.run hK
  refine ⟨_, ps_par hc hN hi hj hij hx hy k1 hw hs, fun σ F H l env g D R w => ?_⟩
  refine s1 σ F H l env g _ R (Wp.mono (Wp.bind.mp w).xs (fun evs env1 g1 w vs F1 H1 l1 R1 x1 r1 => ?_) fun _ _ _ _ w => w)
  split at w
  · rename_i dx dy
    cases r1 with
    | cons r1 t1 =>
      cases t1 with
      | cons r2 t2 =>
        cases t2
        exact ⟨_, _, rfl, w _ F1 H1 l1 ((R1.setd i r1.1).setd j r2.1) x1.fs⟩
  · exact w.elim
theorem simFor {wi : TI} {gt : TG} {tb : TS} {p : Pat} {mi : M (List PyData)} {mb : M Fl} (hi : SimI C wi mi) (hg : SimG C gt p) (hb : SimS C tb mb) : SimS C (tFor wi gt tb) (mFor p mi mb) := by
  intro σ F H l env gs D R w
  refine hi σ F H l env gs _ R (Wp.mono (Wp.bind.mp w).xs (fun xs env1 g1 w J F1 H1 l1 R1 x1 W1 => ?_) fun _ _ _ _ w => w)
  let N : Nat → L2.St → Hp → Prop := fun i σ' H' => ∃ (F' : Hp) (l' : Loc) (e' : Env') (g' : G), Same F1 F' ∧ Rel C σ' F' H' l' e' g' ∧ Wp (forD p mb (xs.drop i) e' g') (KS C F D) (KXS C)
  refine ⟨fun i m σ' H' => m = xs.length - i ∧ i ≤ xs.length ∧ N i σ' H', ⟨_, rfl, Nat.zero_le _, F1, l1, env1, g1, .refl _, R1, w⟩, ?_⟩
  rintro i m σ' H' ⟨rfl, hle, F', l', e', g', sF, R', w⟩
  by_cases hlt : i < xs.length
  · refine .inr ⟨W1.go F' H' i sF R'.sub hlt, N (i + 1), fun σ2 H2 q => ⟨_, by omega, rfl, hlt, q⟩, fun x H2 y => ?_⟩
    obtain ⟨F2, d, hd, nw2⟩ := W1.yl F' H' i x H2 sF R'.sub hlt y
    obtain ⟨R3, x3, r3⟩ := R'.new nw2
    rw [drop_get hd] at w
    unfold forD at w
    cases ha : asg p d e' with
    | none => rw [ha] at w; exact w.elim
    | some e1 =>
      rw [ha] at w
      refine hg σ' F2 H2 l' e' e1 g' x d _ R3 r3 ha fun σ2 R4 off ow => ?_
      refine hb σ2 F2 H2 l' e1 g' { D with nx := N (i + 1), ct := N (i + 1), bk := D.nx } R4 (Wp.mono (Wp.bind.mp w) (fun fl e5 g5 w σ5 F5 H5 l5 R5 s5 => ?_) fun _ _ _ _ w => w)
      have s15 := (sF.trans nw2.fs).trans s5
      cases fl with
      | nx => exact ⟨F5, l5, e5, g5, s15, R5, w⟩
      | ct => exact ⟨F5, l5, e5, g5, s15, R5, w⟩
      | bk => exact w σ5 F5 H5 l5 R5 (x1.fs.trans s15)
      | rt v => exact w σ5 F5 H5 l5 R5 (x1.fs.trans s15)
  · have e : i = xs.length := by omega
    subst e
    refine .inl ⟨W1.st F' H' sF R'.sub, ?_⟩
    rw [List.drop_length] at w
    exact w σ' F' H' l' R' (x1.fs.trans sF)
theorem ds_for {tg iter : Expr} {body : List Stmt} {p : Pat} {mi : M (List PyData)} {mb : M Fl} (hp : PassesOwn (model X.prog X.w) X.A X.env X.xe) (hc : X.calm = true) (hi : DI X C tg iter mi) (hg : DG X C tg p) (hb : DSs X C body mb)
    (hs : ∀ x, foldedSetIterable iter X.env x = pure x := by intro _; rfl) : DS X C (.For tg iter body [] pos) (mFor p mi mb) := by
  refine ⟨fun hK => ?_⟩
  obtain ⟨wi, h1, s1⟩ := hi.run hK
  obtain ⟨gt, h2, s2⟩ := hg.run hK
  obtain ⟨tb, h3, s3⟩ := hb.run hK
  exact ⟨_, ps_for hp hc h1 h2 h3 hs, simFor s1 s2 s3⟩
theorem simWhile {tc : TT} {tb : TS} {mt : M Bool} {mb : M Fl} {n : Nat} (ht : SimT C tc mt) (hb : SimS C tb mb) : SimS C (tWhile tc tb) (whileD mt mb n) := by
  intro σ F H l env g D R w
  let N : Nat → L2.St → Hp → Prop := fun m σ' H' => ∃ (F' : Hp) (l' : Loc) (e' : Env') (g' : G), Same F F' ∧ Rel C σ' F' H' l' e' g' ∧ Wp (whileD mt mb m e' g') (KS C F D) (KXS C)
  refine ⟨N, ⟨n, F, l, env, g, .refl _, R, w⟩, ?_⟩
  rintro m σ' H' ⟨F', l', e', g', sF, R', w⟩
  cases m with
  | zero => exact w.elim
  | succ m =>
    refine ht σ' F' H' l' e' g' _ R' (Wp.mono (Wp.bind.mp w).xs (fun b env1 g1 w F1 H1 l1 R1 x1 => ?_) fun _ _ _ _ w => w)
    cases b with
    | false =>
      rw [if_neg Bool.false_ne_true]
      exact w σ' F1 H1 l1 R1 (sF.trans x1.fs)
    | true =>
      rw [if_pos rfl]
      refine ⟨N m, fun σ2 H2 q => ⟨m, Nat.lt_succ_self _, q⟩, ?_⟩
      rw [if_pos rfl] at w
      refine hb σ' F1 H1 l1 env1 g1 { D with nx := N m, ct := N m, bk := D.nx } R1 (Wp.mono (Wp.bind.mp w) (fun fl e5 g5 w σ5 F5 H5 l5 R5 s5 => ?_) fun _ _ _ _ w => w)
      have s15 := (sF.trans x1.fs).trans s5
      cases fl with
      | nx => exact ⟨F5, l5, e5, g5, s15, R5, w⟩
      | ct => exact ⟨F5, l5, e5, g5, s15, R5, w⟩
      | bk => exact w σ5 F5 H5 l5 R5 s15
      | rt v => exact w σ5 F5 H5 l5 R5 s15
theorem ds_while {c : Expr} {body : List Stmt} {mt : M Bool} {mb : M Fl} (n : Nat) (hp : PassesOwn (model X.prog X.w) X.A X.env X.xe) (hc : DT X C c mt) (hb : DSs X C body mb) : DS X C (.While c body [] pos) (whileD mt mb n) := by
  refine ⟨fun hK => ?_⟩
  obtain ⟨tc, h1, s1⟩ := hc.run hK
  obtain ⟨tb, h3, s3⟩ := hb.run hK
  exact ⟨_, ps_while hp h1 h3, simWhile s1 s3⟩
end
end DL
namespace DL
open PySem L2
/-! ### defs -/
abbrev FM := List EV → G → R EV
abbrev CXN : CXT := fun _ _ _ _ _ _ => False
abbrev XN : XK := fun _ _ _ => False
def ArgRep (K : PySem.W.Frag) (F : Hp) (l : Loc) (v : V) : EV → Prop
  | .d x => Rep K F v x
  | .src b => ∃ d c, l = some (d, c) ∧ v = V.ref (if b then c else d)
  | .scr ns => ∃ a, v = V.ref a ∧ SqL K F a (ns.map V.int)
  | _ => False
/-- what holds behind a call -/
structure Back (K : PySem.W.Frag) (F H : Hp) (l : Loc) (v : V) (F' H' : Hp) (l' : Loc) (ev : EV) (g' : G) : Prop where
  fs : Same F F'
  sub : Same F' H'
  old : ∀ a o, H a = some o → ¬ SrcAt l a → H' a = some o
  oldd : ∀ a, H a ≠ none → H' a ≠ none
  fo : ∀ a, F' a ≠ none → F a ≠ none ∨ H a = none
  lo : ∀ a, SrcAt l' a → SrcAt l a ∨ H a = none
  l0 : ∀ p, l = some p → l' = some p
  src : SrcRep F' H' l' g'
  res : match ev with
    | .d x => Rep K F' v x
    | .fr x => ∃ a, v = V.ref a ∧ OwnRep K F' H' a x ∧ F' a = none ∧ H a = none ∧ ¬ SrcAt l' a
    | .src b => ∃ d c, l' = some (d, c) ∧ v = V.ref (if b then c else d)
    | _ => False
def WpF (r : R EV) (K : EV → G → Prop) : Prop := Wp r (fun ev _ g' => K ev g') fun _ _ _ _ => False
theorem WpF.mono {r : R EV} {K K' : EV → G → Prop} (h : WpF r K) (hk : ∀ ev g, K ev g → K' ev g) : WpF r K' := Wp.mono h (fun _ _ _ w => hk _ _ w) fun _ _ _ _ w => w
structure FnD (P : Program) (w : World) (K : PySem.W.Frag) (mg : Str → Option Value) (base : Heap) (k : Nat) (f : Addr) (fd : FuncData) (ps : List Str) (fm : FM) : Prop where
  run : ∀ (A : Around) (outer : List Env) (s : Shared) (H F : Hp) (l : Loc) (g : G) (args : Args) (us : List Value) (vs : List V) (evs : List EV) (Q : VK), Room k A → A.guards = some [] → Env0 P w K mg base A outer s H → BindsTo s fd args (ps.zip us) → Vals vs us → vs.length = ps.length →
    Same F H → SrcRep F H l g → Paired (ArgRep K F l) vs evs → WpF (fm evs g) (fun ev g' => ∀ v F' H' l', Back K F H l v F' H' l' ev g' → Q v H') → codeAny (model P w) A (.call (.ref f) args) (CR CXN outer P w H s Q XN) s
theorem FnD.mono {P : Program} {w : World} {K : PySem.W.Frag} {mg : Str → Option Value} {base : Heap} {j k : Nat} {f : Addr} {fd : FuncData} {ps : List Str} {fm : FM} (h : FnD P w K mg base j f fd ps fm) (e : j ≤ k) : FnD P w K mg base k f fd ps fm :=
  ⟨fun A outer s H F l g args us vs evs Q hr => h.run A outer s H F l g args us vs evs Q (hr.mono e)⟩
/-- nothing is promised -/
theorem FnD.bad {P : Program} {w : World} {K : PySem.W.Frag} {mg : Str → Option Value} {base : Heap} {k : Nat} {f : Addr} {fd : FuncData} {ps : List Str} : FnD P w K mg base k f fd ps fun _ _ => .bad :=
  ⟨fun A outer s H F l g args us vs evs Q _ _ _ _ _ _ _ _ _ h => h.elim⟩
/-- another mirror that tells no more -/
theorem FnD.imp {P : Program} {w : World} {K : PySem.W.Frag} {mg : Str → Option Value} {base : Heap} {k : Nat} {f : Addr} {fd : FuncData} {ps : List Str} {fm fm' : FM} (h : FnD P w K mg base k f fd ps fm) (e : ∀ evs g (Q : EV → G → Prop), WpF (fm' evs g) Q → WpF (fm evs g) Q) : FnD P w K mg base k f fd ps fm' :=
  ⟨fun A outer s H F l g args us vs evs Q hr hg e0 hb hv hl hs hS ha hw => h.run A outer s H F l g args us vs evs Q hr hg e0 hb hv hl hs hS ha (e _ _ _ hw)⟩
def isArg : EV → Bool
  | .d _ => true
  | .src _ => true
  | .scr _ => true
  | _ => false
def mCall (n : Nat) (fm : FM) (m : M (List EV)) : M EV := m.bind fun evs => fun env g => if evs.all isArg = true ∧ evs.length = n then (match fm evs g with
    | .ok ev _ g' => .ok ev env g'
    | _ => .bad) else .bad
theorem paired_len {α β : Type} {P : α → β → Prop} : ∀ {xs : List α} {ys : List β}, Paired P xs ys → xs.length = ys.length
  | _, _, .nil => rfl
  | _, _, .cons _ t => by simp [paired_len t]
theorem args_of {C : DCx} {σ : L2.St} {F H H0 : Hp} {l : Loc} {env : Env'} : ∀ {evs : List EV} {vs : List V}, Paired (fun v ev => RepEV C σ F H l env v ev ∧ FreshAt H0 v ev) vs evs → evs.all isArg = true → Paired (ArgRep C.K F l) vs evs
  | [], _, .nil, _ => .nil
  | ev :: evs, _, .cons r t, h => by
    rw [List.all_cons, Bool.and_eq_true] at h
    refine .cons ?_ (args_of t h.2)
    cases ev with
    | d x => exact r.1
    | src b => exact r.1
    | scr ns => exact r.1
    | _ => exact absurd h.1 (by simp [isArg])
/-- behind a call, in the caller's body -/
theorem Rel.after {C : DCx} {σ : L2.St} {F H F' H' : Hp} {l l' : Loc} {env : Env'} {g g' : G} {v : V} {ev : EV} (R : Rel C σ F H l env g) (b : Back C.K F H l v F' H' l' ev g') :
    Rel C σ F' H' l' env g' ∧ Ext σ F H l env F' H' l' env ∧ RepEV C σ F' H' l' env v ev ∧ FreshAt H v ev := by
  have nh : ∀ {a : Addr}, H a = none → C.H0 a = none := fun {a} h => none_of_none R.oldd h
  have own : ∀ {i : Nat} {x : PyData}, env[i]? = some (.own x) → ∃ a, σ[i]? = some (some (V.ref a)) ∧ OwnRep C.K F' H' a x ∧ F' a = none ∧ C.H0 a = none ∧ ¬ SrcAt l' a := fun {i x} e => by
    obtain ⟨a, h1, h2, h3, h4, h5⟩ := R.own i x e
    obtain ⟨o, ho⟩ := h2.some
    refine ⟨a, h1, h2.up b.fs fun u q => b.old a u q h5, Classical.byContradiction fun z => ?_, h4, fun z => ?_⟩
    · rcases b.fo a z with q | q
      · exact q h3
      · rw [ho] at q; cases q
    · rcases b.lo a z with q | q
      · exact h5 q
      · rw [ho] at q; cases q
  refine ⟨⟨b.sub, R.len, fun i x e => ?_, fun i x e => own e, R.inj, fun i ns e => ?_, fun i z e => ?_, b.src, fun a o e n => ?_, fun a e => b.oldd a (R.oldd a e), R.f0.trans b.fs, fun a e => ?_, fun a e => ?_, fun p e => b.l0 p (R.l0 p e)⟩,
    ⟨b.fs, b.oldd, fun a o e _ n => b.old a o e n, fun a e => (b.fo a e).elim .inl fun z => .inr (.inl z), fun _ e => e, b.l0, b.lo⟩, ?_, ?_⟩
  · obtain ⟨u, h1, h2⟩ := R.dat i x e
    exact ⟨u, h1, Rep.up b.fs _ _ h2⟩
  · obtain ⟨a, h1, h2⟩ := R.iscr i ns e
    exact ⟨a, h1, b.fs.seq h2⟩
  · obtain ⟨d, c, h1, h2⟩ := R.isrc i _ e
    exact ⟨d, c, b.l0 _ h1, h2⟩
  · refine b.old a o (R.old a o e n) fun z => ?_
    rcases R.lo a z with q | q
    · exact n q
    · rw [e] at q; cases q
  · rcases b.fo a e with q | q
    · exact R.fo a q
    · exact .inr (nh q)
  · rcases b.lo a e with q | q
    · exact R.lo a q
    · exact .inr (nh q)
  · have r := b.res
    cases ev with
    | d x => exact r
    | fr x =>
      obtain ⟨a, h1, h2, h3, h4, h5⟩ := r
      refine ⟨a, h1, h2, h3, nh h4, h5, fun z => ?_⟩
      obtain ⟨_, _, _, o, ho⟩ := R.ownF z
      rw [h4] at ho; cases ho
    | src z => exact r
    | _ => exact r.elim
  · have r := b.res
    cases ev with
    | fr x =>
      obtain ⟨a, h1, h2, h3, h4, h5⟩ := r
      intro q e
      rw [h1] at e
      cases e
      exact h4
    | _ => trivial
def tFn (K : PySem.W.Frag) (n : Nat) (fm : FM) (t : TA) : TE := fun σ H Q => t σ H fun vs H1 => ∃ F l g evs, vs.length = n ∧ Same F H1 ∧ SrcRep F H1 l g ∧ Paired (ArgRep K F l) vs evs ∧
  WpF (fm evs g) fun ev g' => ∀ v F' H' l', Back K F H1 l v F' H' l' ev g' → Q v H'
section
variable {X : Cx} {C : DCx} {k : Nat} {f : Addr} {fd : FuncData} {ps : List Str} {fm : FM} {x : Str} {p pos : Pos} {e : Expr} {es : List Expr}
theorem simFn {n : Nat} {t : TA} {m : M (List EV)} (s : SimA C t m) : SimE C (tFn C.K n fm t) (mCall n fm m) := by
  intro σ F H l env g Q R w
  refine s σ F H l env g _ R (Wp.mono (Wp.bind.mp w) (fun evs env1 g1 w vs F1 H1 l1 R1 x1 r1 => ?_) fun _ _ _ _ w => w)
  obtain ⟨⟨ha, hn⟩, w⟩ := wp_iteR w
  refine ⟨F1, l1, g1, evs, by rw [paired_len r1]; exact hn, R1.sub, R1.src, args_of r1 ha, ?_⟩
  cases q : fm evs g1 with
  | bad => rw [q] at w; exact w.elim
  | exc c y e' g' => rw [q] at w; exact w.elim
  | ok ev e' g' =>
    rw [q] at w
    intro v F' H' l' b
    obtain ⟨R2, x2, r2, f2⟩ := R1.after b
    exact w v F' H' l' R2 (x1.trans (C := C) x2) r2 (f2.dn x1.hd)
theorem pe_fn {t : TA} (Fd : FnD X.prog X.w X.K X.mg X.base k f fd ps fm) (hr : Room k X.A) (hgd : X.A.guards = some []) (hg : Gl X x) (hm : X.mg x = some (.ref f)) (hk : PySem.W.keepIn X.K (.ref f) = true) (hb : Binds X.K fd ps [])
    (ha : PA X (e :: es) t) (hdb : (x == ("__debug__" : Str)) = false := by decide) (he : starEach (e :: es) X.env = (false, eval e X.env) :: starEach es X.env := by rfl) (hpl : (backTo pos (starEach es X.env)).any (·.1) = false := by rfl) :
    PE X (.Call (.Name x p) (e :: es) [] pos) (tFn X.K ps.length fm t) := by
  refine ⟨fun pins s σ H Q I h => ?_⟩
  refine wpAny_Call_Name_kw (ld_glob I hg hm ?_ hdb)
  refine PySem.W.callWith_K (h₀ := X.base) I.ok.mod.kin hk (thn (ha.run pos pins s σ H _ I h) fun us s1 ⟨vs, H1, I1, r, F, l, g, evs, hn, hs, hS, hA, w⟩ => ⟨I1.kIn, ?_⟩) he hpl
  have hu : (us ++ []).length = ps.length := by rw [List.append_nil, ← r.length]; exact hn
  have b := hb s1 us I1.kIn hu
  rw [List.append_nil] at b
  refine wpAny_call (codeAny_mono (Fd.run X.A X.stack s1 H1 F l g ⟨us, []⟩ us vs evs Q hr hgd I1.env0 b r hn hs hS hA w) fun r s' hq => ?_)
  cases r with
  | error e => exact False.elim hq
  | ok fl =>
    cases fl with
    | ret u => exact I1.after hq
    | next => exact False.elim hq
    | brk => exact False.elim hq
    | cont => exact False.elim hq
theorem de_call {m : M (List EV)} (Fd : FnD X.prog X.w X.K X.mg X.base k f fd ps fm) (hr : Room k X.A) (hgd : X.A.guards = some []) (hg : Gl X x) (hm : X.mg x = some (.ref f)) (hk : PySem.W.keepIn X.K (.ref f) = true) (hb : Binds X.K fd ps [])
    (ha : DA X C (e :: es) m) (hdb : (x == ("__debug__" : Str)) = false := by decide) (he : starEach (e :: es) X.env = (false, eval e X.env) :: starEach es X.env := by rfl) (hpl : (backTo pos (starEach es X.env)).any (·.1) = false := by rfl) :
    DE X C (.Call (.Name x p) (e :: es) [] pos) (mCall ps.length fm m) := by
  refine ⟨fun hK => ?_⟩
  obtain ⟨t, h1, s1⟩ := ha.run hK
  refine ⟨_, pe_fn Fd hr hgd hg hm hk hb h1 hdb he hpl, ?_⟩
  rw [← hK]
  exact simFn s1
end
/-! ### a def's body -/
def slotArg : EV → Slot
  | .d x => .d x
  | .src b => .src b
  | .scr ns => .scr ns
  | _ => .un
def startE (n : Nat) (evs : List EV) : Env' := evs.map slotArg ++ List.replicate (n - evs.length) .un
def bodyRun (n : Nat) (mb : M Fl) : FM := fun evs g => match mb (startE n evs) g with
  | .ok (.rt (.bo _)) _ _ => .bad
  | .ok (.rt (.scr _)) _ _ => .bad
  | .ok (.rt ev) _ g' => .ok ev [] g'
  | .ok .nx _ g' => .ok (.d .none) [] g'
  | _ => .bad
def cIn (K : PySem.W.Frag) (F H : Hp) (l : Loc) : DCx := ⟨K, F, H, l, fun _ _ _ _ => False, fun _ _ _ _ _ _ => False⟩
theorem startGet {K : PySem.W.Frag} {F : Hp} {l : Loc} : ∀ {evs : List EV} {vs : List V}, Paired (ArgRep K F l) vs evs → ∀ (i : Nat) (s : Slot), (evs.map slotArg)[i]? = some s → ∃ v ev, vs[i]? = some v ∧ s = slotArg ev ∧ ArgRep K F l v ev
  | _, _, .nil, i, s, h => by simp at h
  | ev :: evs, v :: vs, .cons r t, 0, s, h => by
    simp at h
    exact ⟨v, ev, rfl, h.symm, r⟩
  | ev :: evs, v :: vs, .cons r t, i + 1, s, h => by
    obtain ⟨v', ev', h1, h2, h3⟩ := startGet t i s (by simpa using h)
    exact ⟨v', ev', by simpa using h1, h2, h3⟩
theorem rel_start {K : PySem.W.Frag} {F H : Hp} {l : Loc} {g : G} {N : List Str} {evs : List EV} {vs : List V} (hs : Same F H) (hS : SrcRep F H l g) (ha : Paired (ArgRep K F l) vs evs) (hl : vs.length ≤ N.length) :
    Rel (cIn K F H l) (L2.start N vs) F H l (startE N.length evs) g := by
  have hle := paired_len ha
  have at_ : ∀ {i : Nat} {s : Slot}, (startE N.length evs)[i]? = some s → s ≠ .un → ∃ v ev, (L2.start N vs)[i]? = some (some v) ∧ s = slotArg ev ∧ ArgRep K F l v ev := fun {i s} h n => by
    unfold startE at h
    by_cases hi : i < evs.length
    · rw [List.getElem?_append_left (by simpa using hi)] at h
      obtain ⟨v, ev, h1, h2, h3⟩ := startGet ha i s h
      refine ⟨v, ev, ?_, h2, h3⟩
      unfold L2.start
      rw [List.getElem?_append_left (by rw [List.length_map, hle]; exact hi), List.getElem?_map, h1]
      rfl
    · rw [List.getElem?_append_right (by simpa using hi), List.getElem?_replicate] at h
      split at h
      · cases h; exact absurd rfl n
      · cases h
  have no : ∀ {i : Nat} {x : PyData}, (startE N.length evs)[i]? ≠ some (.own x) := fun {i x} h => by
    obtain ⟨v, ev, _, h2, h3⟩ := at_ h (by simp)
    cases ev <;> simp [slotArg] at h2
  refine ⟨hs, ?_, fun i x h => ?_, fun i x h => absurd h no, fun i j x y a h => absurd h no, fun i ns h => ?_, fun i bb h => ?_, hS, fun a o e _ => e, fun a e => e, .refl _, fun a e => .inl e, fun a e => .inl e, fun p e => e⟩
  · unfold L2.start startE
    simp [hle]
  · obtain ⟨v, ev, h1, h2, h3⟩ := at_ h (by simp)
    cases ev <;> simp [slotArg] at h2
    subst h2
    exact ⟨v, h1, h3⟩
  · obtain ⟨v, ev, h1, h2, h3⟩ := at_ h (by simp)
    cases ev <;> simp [slotArg] at h2
    subst h2
    obtain ⟨a, rfl, q⟩ := h3
    exact ⟨a, h1, q⟩
  · obtain ⟨v, ev, h1, h2, h3⟩ := at_ h (by simp)
    cases ev <;> simp [slotArg] at h2
    subst h2
    obtain ⟨d, c, e, rfl⟩ := h3
    exact ⟨d, c, e, h1⟩
open PySem.Spec PyProof.Rows in
/-- THE RULE: a def keeps what its body's mirror tells -/
theorem fnd_of {P : Program} {w : World} {K : PySem.W.Frag} {mg : Str → Option Value} {base : Heap} {k : Nat} {f : Addr} {name qual : Str} {params : Arguments} {body : List Stmt} {scope : Scope} {dV kV doc pm cdv ct oc : Value} {an od : Option Addr}
    {osl : Array (Option Value)} {N ps : List Str} {mb : M Fl} (lk : K.lookup f = some ⟨oc, od, .func (PySem.W.fnOf name qual params body scope dV kV doc pm an cdv ct), osl⟩) (hcd : PySem.W.codeIn K cdv qual = true) (S : FnScope N ps scope)
    (hbody : ∀ (A : Around) (outer : List Env) (s : Shared) (H F : Hp) (l : Loc), Room k (A.deeper (envOfC qual scope s.heap.objs.size f cdv)) → A.guards = some [] →
      DSs (cxOf CXN P w K mg base N qual scope f cdv A outer s H XN).nox (cIn K F H l) body mb) :
    FnD P w K mg base (k + 1) f (PySem.W.fnOf name qual params body scope dV kV doc pm an cdv ct) ps (bodyRun N.length mb) := by
  refine ⟨fun A outer s H F l g args us vs evs Q hr hgd e0 hb r hl hs hS ha hw => ?_⟩
  have KX : K.In s.heap := e0.mod.kin.keeps fun b o e => (e0.bs b o e).1
  have lim : s.heap.NoLimit := e0.mod.nolimit.keeps fun b o e => (e0.bs b o e).1
  have hpl : ps.length ≤ N.length := by
    have := congrArg List.length S.pre
    rw [List.length_take] at this
    omega
  have hkind : ∀ y ∈ ps.zip us, scope.names.lookup y.1 = some .local ∨ (scope.names.lookup y.1 = some .cell ∧ ((cellsFrom (s.heap.objs.size + 1) scope.names []).lookup y.1).isSome = true) := by
    rintro ⟨n, v⟩ hy
    exact (S.par n (List.of_mem_zip hy).1).elim .inl fun q => .inr ⟨q, PySem.W.cellsFrom_some _ _ _ (.inl q)⟩
  refine codeAny_call_function hr.depth (KX _ _ lk) rfl S.co S.gen rfl (PySem.W.codeRec_of KX hcd) (hb _ _ _ _ ?_)
  refine wpAny_newFunctionEnv_cells S.kind hkind fun env he s1 x => ?_
  subst he
  refine ⟨lim.keeps x.toInCall.keep, codeAny_func ?_⟩
  obtain ⟨t, ht, sim⟩ := (hbody A outer s H F l (hr.deeper _) hgd).run rfl
  have I := inv_start (CX := CXN) (P := P) (w := w) (base := base) (N := N) (qual := qual) (f := f) (cd := cdv) (E := XN) S hr.hd e0 hl r x
  have R0 := rel_start (N := N) hs hS ha (by rw [hl]; exact hpl)
  have go : t { nx := fun _ H' => Q .non H', rt := Q } (L2.start N vs) H := by
    refine sim _ F H l _ g _ R0 ?_
    unfold bodyRun at hw
    have fin : ∀ {σ' : L2.St} {F' H' : Hp} {l' : Loc} {env' : Env'} {g' : G} {ev : EV} {v : V}, Rel (cIn K F H l) σ' F' H' l' env' g' → RepEV (cIn K F H l) σ' F' H' l' env' v ev → (∀ i, ev ≠ .bo i) → (∀ ns, ev ≠ .scr ns) → Back K F H l v F' H' l' ev g' := fun {σ' F' H' l' env' g' ev v} R r nb ns => by
      refine ⟨R.f0, R.sub, R.old, R.oldd, R.fo, R.lo, R.l0, R.src, ?_⟩
      cases ev with
      | d y => exact r
      | fr y =>
        obtain ⟨a, h1, h2, h3, h4, h5, h6⟩ := r
        exact ⟨a, h1, h2, h3, h4, h5⟩
      | src z => exact r
      | bo i => exact absurd rfl (nb i)
      | scr m => exact absurd rfl (ns m)
    cases q : mb (startE N.length evs) g with
    | bad => rw [q] at hw; exact hw.elim
    | exc c y e' g' => rw [q] at hw; exact hw.elim
    | ok fl e' g' =>
      rw [q] at hw
      cases fl with
      | nx => exact fun σ' F' H' l' R _ => hw V.non F' H' l' (fin R RepEV.ofn nofun nofun)
      | bk => exact hw.elim
      | ct => exact hw.elim
      | rt ev =>
        cases ev with
        | bo i => exact hw.elim
        | scr m => exact hw.elim
        | _ => exact fun σ' F' H' l' R _ v r => hw v F' H' l' (fin R r nofun nofun)
  refine wpAny_mono (ht.nox.run [] s1 (L2.start N vs) H _ I go) (fun fl s' hq => ?_) fun e s' hq => hq
  cases fl with
  | ret u =>
    obtain ⟨v, σ', H', J, rv, q⟩ := hq
    exact ⟨v, H', J.os, J.bare, J.base, J.hok, rv, q⟩
  | next =>
    obtain ⟨σ', H', J, q⟩ := hq
    exact ⟨V.non, H', J.os, J.bare, J.base, J.hok, rfl, q⟩
  | brk =>
    obtain ⟨_, _, _, q⟩ := hq
    exact False.elim q
  | cont =>
    obtain ⟨_, _, _, q⟩ := hq
    exact False.elim q
end DL
namespace DL
open PySem L2
/-! ### the law's own call -/
/-- a dict stands where the modules' table is -/
def SysAt (h : Heap) : Prop := ∃ o es ep, h.get? sysModules = some o ∧ o.data = .dict es ep
theorem SysAt.of {h : Heap} (n : h.NoSeer) : SysAt h := let ⟨_, ⟨o, es, ep, e, d, _⟩, _⟩ := n.mods; ⟨o, es, ep, e, d⟩
section
open PySem.Spec PyProof.Rows
theorem law_callD {P : Program} {w : World} {K : PySem.W.Frag} {mg mb : Str → Option Value} {k : Nat} {fa a : Addr} {fd : FuncData} {x : Str} {fm : FM} {s₁ : Shared} {vs : List Value} {ns : List Int}
    (KX : K.In s₁.heap) (hns : s₁.heap.Ns mainGlobals mg) (hb : s₁.heap.Ns builtinsNs mb) (hbb : ∀ x : Str, x ≠ "__name__" → mb x = bootBuiltins x) (hlim : s₁.heap.NoLimit) (hsys : SysAt s₁.heap) (hg : s₁.gens = #[])
    (ha : s₁.heap.get? a = some { cls := .type "list", data := .seq vs.toArray }) (hi : IntsAre vs ns) (hl : ns.length ≤ sizeLine) (hr : Room k callerA)
    (Fd : ∀ base : Heap, K.In base → base.Ns mainGlobals mg → SysAt base → FnD P w K mg base k fa fd [x] fm) (hbind : ∀ (s : Shared) (u : Value), BindsTo s fd ⟨[u], []⟩ [(x, u)])
    (hw : WpF (fm [.scr ns] none) fun ev _ => ev = .d (.bool true)) :
    codeAny (model P w) callerA (.call (.ref fa) ⟨[.ref a], []⟩) (fun r s' => r = .ok (.ret (.bool true)) ∧ OldK s₁.heap s'.heap ∧ s'.os = s₁.os ∧ AllBare s'.gens) s₁ := by
  have rv := vals_ints hi
  have lenV := hi.length
  have core : ∀ H : Hp, Only H → SqL K H a (ns.map V.int) → HOk P w H s₁.heap → (∀ b, H b ≠ none → b = a) → (H a ≠ none → K.lookup a = none) →
      codeAny (model P w) callerA (.call (.ref fa) ⟨[.ref a], []⟩) (fun r s' => r = .ok (.ret (.bool true)) ∧ OldK s₁.heap s'.heap ∧ s'.os = s₁.os ∧ AllBare s'.gens) s₁ := by
    intro H hO hS hok hA hK
    have stay : ∀ {b : Addr} {o : Obj}, s₁.heap.get? b = some o → H b = none → (hidT s₁.heap H).get? b = some o := fun e n => hidT_get e n
    have noD : ∀ {b : Addr} {o : Obj} {es : Array DictEntry} {ep : Nat}, s₁.heap.get? b = some o → o.data = .dict es ep → H b = none := fun {b o es ep} e d => by
      refine Classical.byContradiction fun z => ?_
      have e' := hA b z
      subst e'
      rw [ha] at e
      cases e
      exact nomatch (show Data.seq vs.toArray _ = Data.dict es ep from d)
    have nsD : ∀ {b : Addr} {m : Str → Option Value}, s₁.heap.Ns b m → (hidT s₁.heap H).Ns b m := fun {b m} q => by
      obtain ⟨o, es, ep, e, d, r⟩ := q
      exact ⟨o, es, ep, stay e (noD e d), d, r⟩
    have inK : K.In (hidT s₁.heap H) := fun b o e => stay (KX b o e) (Classical.byContradiction fun z => by
      have e' := hA b z
      subst e'
      rw [hK z] at e
      cases e)
    have hM : Mod K mg (hidT s₁.heap H) := ⟨inK, nsD hns, ⟨mb, nsD hb, hbb⟩, let ⟨mc, h1, h2⟩ := hlim; ⟨mc, nsD h1, h2⟩⟩
    have hSy : SysAt (hidT s₁.heap H) := by
      obtain ⟨o, es, ep, e, d⟩ := hsys
      exact ⟨o, es, ep, stay e (noD e d), d⟩
    have e0 : Env0 P w K mg (hidT s₁.heap H) callerA [] s₁ H := ⟨rfl, hM, fun b o e => of_hidT e, Nat.le_of_eq (hidT_size _ _), trivial, fun b hb => absurd (show b ∈ ([] : List Addr) from hb) (by simp), hok, .of_eq hg⟩
    refine codeAny_mono ((Fd _ inK (nsD hns) hSy).run callerA [] s₁ H H none none ⟨[.ref a], []⟩ [.ref a] [.ref a] [.scr ns] (fun v _ => v = .bl true) hr rfl e0 (hbind s₁ (.ref a)) (.cons rfl .nil) rfl (.refl _) trivial (.cons ⟨a, rfl, hS⟩ .nil)
      (hw.mono fun ev g e v F' H' l' b => by subst e; exact rep_bool.mp b.res)) fun r s' h => ?_
    cases r with
    | error e => exact False.elim h
    | ok fl =>
      cases fl with
      | next => exact False.elim h
      | brk => exact False.elim h
      | cont => exact False.elim h
      | ret u =>
        obtain ⟨v, H', os, bare, un, hok', r', q⟩ := h
        have q' : v = .bl true := q
        subst q'
        obtain rfl : u = Value.bool true := r'
        refine ⟨rfl, OldK.of_keep fun b o e => ?_, os, bare⟩
        rcases hO b with z | ⟨ob, xs, z⟩
        · exact un.keep b o e z (fun z => nomatch (show b ∈ ([] : List Addr) from z)) (by simp)
        · obtain ⟨e1, _⟩ := hok b _ z
          obtain ⟨e2, _⟩ := hok' b _ (un.frzs b ob _ z)
          rw [e] at e1
          cases e1
          exact e2
  cases hk : K.lookup a with
  | some o =>
    have e := KX a o hk
    rw [ha] at e
    cases e
    exact core (fun _ => none) (fun _ => .inl rfl) (.inr ⟨_, vs.toArray, _, hk, rfl, rfl, rfl, by rw [List.size_toArray, lenV]; exact hl, by simpa using rv⟩) (fun b u z => nomatch (show (none : Option HO) = some u from z)) (fun b z => absurd rfl z) fun z => absurd rfl z
  | none =>
    let H1 : Hp := fun b => if b = a then some (.frz { cls := .type "list", data := .seq vs.toArray } (.lst (ns.map V.int))) else none
    have at_ : H1 a = some (.frz { cls := .type "list", data := .seq vs.toArray } (.lst (ns.map V.int))) := if_pos rfl
    have off : ∀ {b : Addr}, b ≠ a → H1 b = none := fun h => if_neg h
    refine core H1 (fun b => ?_) (.inl (.inr ⟨_, at_⟩)) (fun b u z => ?_) (fun b z => Classical.byContradiction fun h => z (off h)) fun _ => hk
    · by_cases hb : b = a
      · subst hb; exact .inr ⟨_, _, at_⟩
      · exact .inl (off hb)
    · by_cases hb : b = a
      · subst hb
        rw [at_] at z
        cases z
        exact ⟨ha, by rw [List.length_map]; exact hl, vs, _, rv, ha⟩
      · rw [off hb] at z
        cases z
/-- the head's last goal -/
theorem walk_ofD {l : PySem.W.OpenLaw} {n k : Nat} {q : Program} {loose : List Str} {XP : (Str → Option Value) → Heap → Prop} {YP : World → Heap → Prop} {d : DefRec} {K : Params → PySem.W.Frag} {fm : FM} {x : Str}
    (hn : l.most = some n) (hn2 : n ≤ sizeLine) (hdf : d.params.defaults = []) (hr : Room k callerA) (hi : importsNone q = true)
    (hY : ∀ (w : World) (h : Heap), YP w h → (K w.params).In h)
    (Fd : ∀ (w : World) (mg : Str → Option Value) (fa : Addr) (h : Heap), (K w.params).In h → h.Ns mainGlobals mg → mg d.name = some (.ref fa) →
      ∃ fd : FuncData, (∀ (s : Shared) (u : Value), BindsTo s fd ⟨[u], []⟩ [(x, u)]) ∧
        ∀ base : Heap, (K w.params).In base → base.Ns mainGlobals mg → SysAt base → FnD l.prog w (K w.params) mg base k fa fd [x] fm)
    (hw : ∀ ns : List Int, ns.length ≤ n → (∀ z ∈ ns, Builtin.Int.intBits z ≤ 1048576) → WpF (fm [.scr ns] none) fun ev _ => ev = .d (.bool true)) :
    PySem.W.WalkO q loose XP YP l.row.toRowW d [] (fun f vs => PySem.call f vs) := by
  refine Att.attach_callB hn hdf fun w s₀ s₁ mg mb fa o pm cd doc a vs ns G Y ho hd hcd hmg hobj hints hlen hbits hg => ?_
  have KX := hY w _ Y
  obtain ⟨fd, hb, hF⟩ := Fd w mg fa _ KX G.T.g hmg
  exact law_callD KX G.T.g G.T.b G.T.builtins G.T.nolimit (SysAt.of (G.T.seer hi)) hg hobj hints (Nat.le_trans hlen hn2) hr hF hb (hw ns hlen hbits)
end
/-! ### repr -/
section
variable {X : Cx} {pins : List (Addr × Obj)} {σ : L2.St} {H F : Hp} {s : Shared}
theorem noSys_seq (I : Inv X pins σ H s) (hy : SysAt X.base) {a : Addr} {o : Obj} {xs : Array Value} {n : Nat} (e : s.heap.get? a = some o) (d : o.data = .seq xs n) : a ≠ sysModules := by
  rintro rfl
  obtain ⟨o', es, ep, e', d'⟩ := hy
  rw [I.bk _ _ e'] at e
  cases e
  rw [d] at d'
  cases d'
theorem keys_as {h : Heap} : ∀ {vs : List Value} {ds : List PyData} {as : List Addr}, ReadsAll h vs ds as → (∀ d ∈ ds, (∃ i, d = .int i) ∨ ∃ x, d = .str x) → as = []
  | _, _, _, .nil, _ => rfl
  | _, _, _, .cons h t, k => by
    have t' := keys_as t fun d hd => k d (List.mem_cons_of_mem _ hd)
    rcases k _ List.mem_cons_self with ⟨i, rfl⟩ | ⟨x, rfl⟩
    · cases h; simp [t']
    · cases h; simp [t']
theorem key_kinds {K : PySem.W.Frag} {F : Hp} : ∀ {ps : List (PyData × PyData)} {kv : List (Key × V)}, RepD K F kv ps → ∀ d ∈ ps.map (·.1), (∃ i, d = .int i) ∨ ∃ x, d = .str x
  | [], _, _, d, hd => by cases hd
  | p :: ps, kv, h, d, hd => by
    simp only [RepD] at h
    obtain ⟨k, v, w, rfl, q1, q2, t⟩ := h
    rw [List.map_cons] at hd
    rcases List.mem_cons.mp hd with e | e
    · subst e
      obtain ⟨p1, p2⟩ := p
      cases k with
      | inl i => cases p1 <;> simp_all [kV, rep_list, rep_tup, rep_dict]
      | inr x => cases p1 <;> simp_all [kV, rep_list, rep_tup, rep_dict]
    · exact key_kinds t d e
mutual
theorem Rep.readsN (I : Inv X pins σ H s) (hs : Same F H) (hy : SysAt X.base) : ∀ (d : PyData) (v : V) (u : Value), Rep X.K F v d → RelV v u → ∃ as, Reads s.heap u d as ∧ sysModules ∉ as
  | .none, _, _, h, r => by
    cases rep_none.mp h
    cases r
    exact ⟨_, Reads.none, by simp⟩
  | .bool b, _, _, h, r => by
    cases rep_bool.mp h
    cases r
    exact ⟨_, Reads.bool b, by simp⟩
  | .int i, _, _, h, r => by
    cases rep_int.mp h
    obtain ⟨t, rfl⟩ := r
    exact ⟨_, Reads.int i t, by simp⟩
  | .str x, _, _, h, r => by
    cases rep_str.mp h
    obtain ⟨t, rfl⟩ := r
    exact ⟨_, Reads.str x t, by simp⟩
  | .list ds, _, _, h, r => by
    obtain ⟨a, vs, rfl, q, t⟩ := rep_list.mp h
    cases r
    obtain ⟨its, rv, ⟨o, n, ho, hc, _, hd⟩, _⟩ := I.list (SqL.of (hs _ _ q))
    obtain ⟨as, hr, hn⟩ := RepL.readsN I hs hy ds vs its t rv
    refine ⟨_, Reads.list ho hc hd hr, fun z => ?_⟩
    rcases List.mem_cons.mp z with z | z
    · exact noSys_seq I hy ho hd z.symm
    · exact hn z
  | .tuple ds, _, _, h, r => by
    obtain ⟨a, vs, rfl, q, t⟩ := rep_tup.mp h
    cases r
    obtain ⟨its, rv, ⟨o, ho, hc, n, hd⟩, _⟩ := I.tuple (SqT.up hs q)
    obtain ⟨as, hr, hn⟩ := RepL.readsN I hs hy ds vs its t rv
    exact ⟨_, Reads.tuple ho hc hd hr, hn⟩
  | .dict kvs, _, _, h, r => by
    obtain ⟨a, kv, rfl, q, t⟩ := rep_dict.mp h
    cases r
    obtain ⟨_, hne, vs, hk, o, es, ep, ho, hx, hd, _, hp, _⟩ := I.hok a _ (hs _ _ q)
    obtain ⟨as, h1⟩ := readsAll_keys (h := s.heap) hp hk t
    obtain ⟨bs, h2, hn⟩ := RepD.readsN I hs hy kvs kv vs t hk
    have e1 := keys_as h1 (key_kinds t)
    subst e1
    refine ⟨_, Reads.dict ho hx.1 hd h1 (bs := bs) ?_, fun z => ?_⟩
    · rw [pairs_vals hp]
      exact h2
    · simp only [List.append_nil, List.nil_append, List.cons_append] at z
      rcases List.mem_cons.mp z with z | z
      · rw [← z] at hne
        exact absurd hne (by decide)
      · exact hn z
theorem RepL.readsN (I : Inv X pins σ H s) (hs : Same F H) (hy : SysAt X.base) : ∀ (ds : List PyData) (vs : List V) (us : List Value), RepL X.K F vs ds → Vals vs us → ∃ as, ReadsAll s.heap us ds as ∧ sysModules ∉ as
  | [], _, _, h, r => by
    cases repL_nil.mp h
    cases r
    exact ⟨_, .nil, by simp⟩
  | d :: ds, _, _, h, r => by
    obtain ⟨v, w, rfl, q, t⟩ := repL_cons.mp h
    cases r with
    | cons r1 r2 =>
      obtain ⟨as, h1, n1⟩ := Rep.readsN I hs hy d _ _ q r1
      obtain ⟨bs, h2, n2⟩ := RepL.readsN I hs hy ds _ _ t r2
      exact ⟨_, .cons h1 h2, by simp [n1, n2]⟩
theorem RepD.readsN (I : Inv X pins σ H s) (hs : Same F H) (hy : SysAt X.base) : ∀ (ps : List (PyData × PyData)) (kv : List (Key × V)) (us : List (Key × Value)), RepD X.K F kv ps → KV kv us → ∃ as, ReadsAll s.heap (us.map (·.2)) (ps.map (·.2)) as ∧ sysModules ∉ as
  | [], kv, _, h, r => by
    simp only [RepD] at h
    subst h
    cases r
    exact ⟨_, .nil, by simp⟩
  | p :: ps, kv, _, h, r => by
    simp only [RepD] at h
    obtain ⟨k, v, w, rfl, q1, q2, t⟩ := h
    cases r with
    | cons r1 r2 =>
      obtain ⟨as, h1, n1⟩ := Rep.readsN I hs hy p.2 _ _ q2 r1.2
      obtain ⟨bs, h2, n2⟩ := RepD.readsN I hs hy ps _ _ t r2
      rw [List.map_cons, List.map_cons]
      exact ⟨_, .cons h1 h2, by simp [n1, n2]⟩
end
end
def reprOk (d : PyData) : Bool := d.showable && decide (d.depth ≤ 60) && decide (d.shown.length ≤ sizeLine)
def pyRepr1 (x : PyData) : Option RV := if reprOk x then some (.d (.str x.shown)) else none
/-- repr(x) of frozen data -/
def mRepr (m : M PyData) : M EV := m.bind fun x => fun env g => M.opt ((pyRepr1 x).map RV.ev) env g
section
open PySem.Spec PyProof.Rows
variable {X : Cx} {C : DCx} {e : Expr} {p pos : Pos}
def rRepr (K : PySem.W.Frag) : List V → Hp → VK → Prop := fun vs H Q => ∃ F v d, vs = [v] ∧ Same F H ∧ Rep K F v d ∧ reprOk d = true ∧ Q (.str d.shown) H
theorem call_reprD (hgd : X.A.guards = some []) (hy : SysAt X.base) (hu : X.A.units + 65 < cLine) : CallR X (.builtin "repr") (rRepr X.K) := by
  intro pins s σ H vs us Q I r h
  obtain ⟨F, v, d, rfl, hs, rp, ok, q⟩ := h
  obtain ⟨u, rfl, r1⟩ := vals1 r
  obtain ⟨as, hr, hn⟩ := Rep.readsN I hs hy d v u rp r1
  unfold reprOk at ok
  rw [Bool.and_eq_true, Bool.and_eq_true, decide_eq_true_eq, decide_eq_true_eq] at ok
  obtain ⟨⟨o1, o2⟩, o3⟩ := ok
  have fin : ∀ (h' : Heap) (t : Tok) (tk : Nat), (∀ b o, s.heap.get? b = some o → h'.get? b = some o) → EP X pins σ Q (.str d.shown t) { s with heap := h', toks := tk } := fun h' t tk hk => ⟨.str d.shown, H, I.kept (t' := tk) hk, ⟨t, rfl⟩, q⟩
  cases hr with
  | none => exact PySem.P.repr_of_none (fin s.heap _ _ fun _ _ e => e)
  | bool b => exact PySem.P.repr_of_bool (by have := fin s.heap s.toks (s.toks + 1) fun _ _ e => e; simpa only [PyData.shown] using this)
  | int i t => exact PySem.P.repr_of_int (by simpa [PyData.showable] using o1) (by have := fin s.heap s.toks (s.toks + 1) fun _ _ e => e; simpa only [PyData.shown] using this)
  | str x t => exact PySem.P.repr_of_str (by have := fin s.heap s.toks (s.toks + 1) fun _ _ e => e; simpa only [PyData.shown] using this) (by simpa only [PyData.shown] using o3)
  | list h1 h2 h3 h4 => exact repr_of_reads' (.list h1 h2 h3 h4) o1 (fun _ => hn) hgd (by omega) (fun _ _ e => e) (fun h' u tk hk => fin h' u tk hk) o3
  | tuple h1 h2 h3 h4 => exact repr_of_reads' (.tuple h1 h2 h3 h4) o1 (fun _ => hn) hgd (by omega) (fun _ _ e => e) (fun h' u tk hk => fin h' u tk hk) o3
  | dict h1 h2 h3 h4 h5 => exact repr_of_reads' (.dict h1 h2 h3 h4 h5) o1 (fun _ => hn) hgd (by omega) (fun _ _ e => e) (fun h' u tk hk => fin h' u tk hk) o3
theorem de_repr {m : M PyData} (hgd : X.A.guards = some []) (hy : SysAt X.base) (hu : X.A.units + 65 < cLine) (hg : Gl X "repr") (hm : X.mg "repr" = none) (ha : DD X C e m)
    (hs : starEach [e] X.env = (false, eval e X.env) :: starEach [] X.env := by rfl) (hpl : (backTo pos (starEach [] X.env)).any (·.1) = false := by rfl) : DE X C (.Call (.Name "repr" p) [e] [] pos) (mRepr m) := by
  refine ⟨fun hK => ?_⟩
  obtain ⟨t, h1, s1⟩ := ha.run hK
  refine ⟨_, pe_callB (call_reprD hgd hy hu) hg hm boot_repr (pa_cons h1 pa_nil hs) (by decide) (by decide) hs hpl, fun σ F H l env g Q R w => ?_⟩
  refine s1 σ F H l env g _ R (Wp.mono (Wp.bind.mp w) (fun d env1 g1 w v F1 H1 l1 R1 x1 r1 => ?_) fun _ _ _ _ w => w)
  cases hg : pyRepr1 d with
  | none => rw [hg] at w; exact w.elim
  | some ev =>
    rw [hg] at w
    unfold pyRepr1 at hg
    obtain ⟨h2, rfl⟩ := if_some hg
    exact ⟨F1, v, d, rfl, R1.sub, by rw [← hK]; exact r1, h2, (KE.res (r := .d (.str d.shown)) R1 (KE.up w x1)).val R1.sub (rep_str.mpr rfl)⟩
end
end DL
namespace DL
open PySem L2
/-! ### the source: a dict of its cells and three ints -/
def srcGetD (s : Src) (key : Str) : Option EV :=
  if key = "cells" then some (.src true) else if key = "left" then some (.d (.int s.left)) else if key = "mixed" then some (.d (.int s.mixed)) else if key = "turn" then some (.d (.int s.turn)) else none
def srcPutD (s : Src) (key : Str) (i : Int) : Option Src :=
  if key = "left" then some { s with left := i } else if key = "mixed" then some { s with mixed := i } else if key = "turn" then some { s with turn := i } else none
theorem ne_cl : ("cells" : Str) ≠ "left" := by decide
theorem ne_cm : ("cells" : Str) ≠ "mixed" := by decide
theorem ne_ct : ("cells" : Str) ≠ "turn" := by decide
theorem ne_lm : ("left" : Str) ≠ "mixed" := by decide
theorem ne_lt : ("left" : Str) ≠ "turn" := by decide
theorem ne_mt : ("mixed" : Str) ≠ "turn" := by decide
def srcKV (c : Addr) (s : Src) : List (Key × V) := [(.inr "cells", .ref c), (.inr "left", .int s.left), (.inr "mixed", .int s.mixed), (.inr "turn", .int s.turn)]
theorem srcKV_get {c : Addr} {s : Src} {key : Str} {ev : EV} (h : srcGetD s key = some ev) : ∃ v, valV (srcKV c s) (.inr key) = some v ∧ (match ev with
    | .src b => b = true ∧ v = V.ref c
    | .d (.int i) => v = V.int i
    | _ => False) := by
  unfold srcGetD at h
  split at h
  · rename_i e; subst e; cases h
    exact ⟨_, by simp [srcKV, valV], rfl, rfl⟩
  · split at h
    · rename_i e; subst e; cases h
      exact ⟨_, by simp [srcKV, valV, ne_cl], rfl⟩
    · split at h
      · rename_i e; subst e; cases h
        exact ⟨_, by simp [srcKV, valV, ne_cm, ne_lm], rfl⟩
      · split at h
        · rename_i e; subst e; cases h
          exact ⟨_, by simp [srcKV, valV, ne_ct, ne_lt, ne_mt], rfl⟩
        · cases h
theorem srcKV_put {c : Addr} {s s' : Src} {key : Str} {i : Int} (h : srcPutD s key i = some s') : putK (srcKV c s) (.inr key) (.int i) = srcKV c s' ∧ s'.cells = s.cells := by
  unfold srcPutD at h
  split at h
  · rename_i e; subst e; cases h
    simp [srcKV, putK, ne_cl, ne_cl.symm, ne_lm, ne_lm.symm, ne_lt, ne_lt.symm]
  · split at h
    · rename_i e; subst e; cases h
      simp [srcKV, putK, ne_cm, ne_cm.symm, ne_lm, ne_lm.symm, ne_mt, ne_mt.symm]
    · split at h
      · rename_i e; subst e; cases h
        simp [srcKV, putK, ne_ct, ne_ct.symm, ne_lt, ne_lt.symm, ne_mt, ne_mt.symm]
      · cases h
section
variable {C : DCx} {σ : L2.St} {F H : Hp} {l : Loc} {env : Env'} {g : G}
/-- the source, written -/
theorem Rel.srcW {d c : Addr} {s s' : Src} {H' : Hp} (R : Rel C σ F H l env (some s)) (el : l = some (d, c)) (hd : H' d = some (srcDict c s')) (hc : H' c = some (.lst (s'.cells.map .int))) (off : ∀ b, b ≠ d → b ≠ c → H' b = H b) :
    Rel C σ F H' l env (some s') ∧ Ext σ F H l env F H' l env := by
  subst el
  have hS := R.src
  obtain ⟨h1, h2, h3, h4, h5⟩ := hS
  have at_ : ∀ b, SrcAt (some (d, c)) b ↔ b = d ∨ b = c := fun b => ⟨fun ⟨p, e, q⟩ => by cases e; exact q, fun q => ⟨_, rfl, q⟩⟩
  have keep : ∀ b o, H b = some o → ¬ SrcAt (some (d, c)) b → H' b = some o := fun b o e n => by
    rw [off b (fun z => n ((at_ b).mpr (.inl z))) (fun z => n ((at_ b).mpr (.inr z)))]
    exact e
  have stay : ∀ b, H b ≠ none → H' b ≠ none := fun b e => by
    by_cases z1 : b = d
    · rw [z1, hd]; simp
    · by_cases z2 : b = c
      · rw [z2, hc]; simp
      · rw [off b z1 z2]; exact e
  refine ⟨⟨fun b o e => ?_, R.len, R.dat, fun i x e => ?_, R.inj, R.iscr, R.isrc, ⟨h1, hd, hc, h4, h5⟩, fun a o e n => ?_, fun a e => stay a (R.oldd a e), R.f0, R.fo, R.lo, R.l0⟩,
    ⟨.refl _, stay, fun a o e _ n => keep a o e n, fun a e => .inl e, fun _ e => e, fun _ e => e, fun _ e => .inl e⟩⟩
  · have z1 : b ≠ d := ne_of_none e h4
    have z2 : b ≠ c := ne_of_none e h5
    rw [off b z1 z2]
    exact R.sub _ _ e
  · obtain ⟨a, k1, k2, k3, k4, k5⟩ := R.own i x e
    exact ⟨a, k1, k2.up (.refl _) fun o q => keep a o q k5, k3, k4, k5⟩
  · refine keep a o (R.old a o e n) fun z => ?_
    rcases R.lo a z with q | q
    · exact n q
    · rw [e] at q; cases q
end
def mSrcGet (key : Str) (mo : M EV) : M EV := mo.bind fun ev => fun env g => match ev, g with
  | .src false, some s => M.opt (srcGetD s key) env g
  | _, _ => .bad
def srcPutV (key : Str) (v ev : EV) (g : G) : Option Src := match v, ev, g with
  | .d (.int i), .src false, some s => srcPutD s key i
  | _, _, _ => none
theorem srcPutV_inv {key : Str} {v ev : EV} {g : G} {s' : Src} (h : srcPutV key v ev g = some s') : ∃ i s, v = .d (.int i) ∧ ev = .src false ∧ g = some s ∧ srcPutD s key i = some s' := by
  unfold srcPutV at h
  split at h
  · exact ⟨_, _, rfl, rfl, rfl, h⟩
  · cases h
def mSrcPut (key : Str) (mv mo : M EV) : M Fl := mv.bind fun v => mo.bind fun ev => fun env g => match srcPutV key v ev g with
  | some s' => .ok .nx env (some s')
  | none => .bad
def mSrcLen (mo : M EV) : M EV := mo.bind fun ev => fun env g => match ev, g with
  | .src true, some s => .ok (.d (.int (s.cells.length : Nat))) env g
  | _, _ => .bad
def mSrcPop (mo : M EV) : M EV := mo.bind fun ev => fun env g => match ev, g with
  | .src true, some s => match s.cells[s.cells.length - 1]? with
    | some i => .ok (.d (.int i)) env (some { s with cells := s.cells.dropLast })
    | none => .bad
  | _, _ => .bad
def mScrItems (mo : M EV) : M (List PyData) := mo.bind fun ev => match ev with
  | .scr ns => M.pure (ns.map .int)
  | _ => M.bad
theorem srcRep_cases {F H : Hp} {l : Loc} {g : G} {d c : Addr} (h : SrcRep F H l g) (e : l = some (d, c)) : ∃ s, g = some s ∧ d ≠ c ∧ H d = some (srcDict c s) ∧ H c = some (.lst (s.cells.map .int)) ∧ F d = none ∧ F c = none := by
  subst e
  cases g with
  | none => exact h.elim
  | some s => exact ⟨s, rfl, h⟩
section
variable {X : Cx} {C : DCx} {o e : Expr} {pos pos' apos cpos p p0 : Pos} {key : Str} {j : Nat} {mo mv : M EV}
theorem de_srcGet (hu : X.A.units + 1 < cLine) (ho : DE X C o mo) (hs : NoSl (.Constant (.str key) j p) := by intro _ _; rfl) : DE X C (.Subscript o (.Constant (.str key) j p) pos) (mSrcGet key mo) := by
  refine ⟨fun hK => ?_⟩
  obtain ⟨t, h1, s1⟩ := ho.run hK
  refine ⟨_, pe_dget hu h1 pe_str hs, fun σ F H l env g Q R w => ?_⟩
  refine s1 σ F H l env g _ R (Wp.mono (Wp.bind.mp w) (fun ev env1 g1 w v F1 H1 l1 R1 x1 r1 f1 => ?_) fun _ _ _ _ w => w)
  split at w
  · rename_i s
    obtain ⟨ev', q, w⟩ := Wp.opt w
    obtain ⟨d, c, e1, rfl⟩ := r1
    obtain ⟨s', e2, k1, k2, k3, k4, k5⟩ := srcRep_cases R1.src e1
    cases e2
    obtain ⟨v, q1, q2⟩ := srcKV_get (c := c) q
    refine ⟨d, v, rfl, ?_, ?_⟩
    · have this : DGet H1 d (kV (.inr key)) (valV (srcKV c s) (.inr key)) := DGet.k k2
      rw [q1] at this
      exact this
    · cases ev' with
      | src b =>
        obtain ⟨rfl, rfl⟩ := q2
        exact w _ F1 H1 l1 R1 x1 ⟨d, c, e1, rfl⟩ trivial
      | d y =>
        cases y with
        | int i => rw [q2]; exact w _ F1 H1 l1 R1 x1 (RepEV.ofd (rep_int.mpr rfl)) trivial
        | _ => exact q2.elim
      | _ => exact q2.elim
  · exact w.elim
theorem ds_srcPut (hu : X.A.units + 1 < cLine) (hv : DE X C e mv) (ho : DE X C o mo) (hs : swapsWith e (some (.Subscript o (.Constant (.str key) j p) pos')) pos.line X.env = pure false := by rfl) :
    DS X C (.Assign [.Subscript o (.Constant (.str key) j p) pos'] e pos) (mSrcPut key mv mo) := by
  refine ⟨fun hK => ?_⟩
  obtain ⟨tv, h1, s1⟩ := hv.run hK
  obtain ⟨t, h2, s2⟩ := ho.run hK
  refine ⟨_, ps_dput hu h2 pe_str h1 hs, fun σ F H l env g D R w => ?_⟩
  refine s1 σ F H l env g _ R (Wp.mono (Wp.bind.mp w).xs (fun v env1 g1 w u F1 H1 l1 R1 x1 r1 f1 => ?_) fun _ _ _ _ w => w)
  refine s2 σ F1 H1 l1 env1 g1 _ R1 (Wp.mono (Wp.bind.mp w).xs (fun ev env2 g2 wf u2 F2 H2 l2 R2 x2 r2 f2 => ?_) fun _ _ _ _ w => w)
  cases q0 : srcPutV key v ev g2 with
  | none => rw [q0] at wf; exact wf.elim
  | some s' =>
    rw [q0] at wf
    obtain ⟨i, s, rfl, rfl, rfl, q⟩ := srcPutV_inv q0
    obtain ⟨d, c, e1, rfl⟩ := r2
    obtain ⟨s0, e2, k1, k2, k3, k4, k5⟩ := srcRep_cases R2.src e1
    cases e2
    obtain ⟨q1, q2⟩ := srcKV_put (c := c) q
    have hi : u = .int i := rep_int.mp (show Rep C.K F1 u (.int i) from r1)
    subst hi
    have dp : DPut H2 d (kV (.inr key)) (.int i) (upd H2 d (.dK (putK (srcKV c s) (.inr key) (.int i)))) := DPut.k k2 (show 4 < sizeLine by decide)
    rw [q1] at dp
    refine ⟨d, _, rfl, dp, ?_⟩
    obtain ⟨R3, x3⟩ := R2.srcW (s' := s') (H' := upd H2 d (.dK (srcKV c s'))) e1 upd_same (by rw [upd_ne (Ne.symm k1), q2]; exact k3) fun b n1 _ => upd_ne n1
    exact wf σ F2 _ l2 R3 (x1.fs.trans x2.fs)
theorem de_srcLen {x1 : Pos} (hg : Gl X "len") (hm : X.mg "len" = none) (ho : DE X C o mo) (hs : starEach [o] X.env = (false, eval o X.env) :: starEach [] X.env := by rfl) (hpl : (backTo pos (starEach [] X.env)).any (·.1) = false := by rfl) :
    DE X C (.Call (.Name "len" x1) [o] [] pos) (mSrcLen mo) := by
  refine ⟨fun hK => ?_⟩
  obtain ⟨t, h1, s1⟩ := ho.run hK
  refine ⟨_, pe_callB call_len hg hm (by decide +kernel) (pa_cons h1 pa_nil hs) (by decide) (by decide) hs hpl, fun σ F H l env g Q R w => ?_⟩
  refine s1 σ F H l env g _ R (Wp.mono (Wp.bind.mp w) (fun ev env1 g1 w v F1 H1 l1 R1 x1 r1 f1 => ?_) fun _ _ _ _ w => w)
  split at w
  · rename_i s
    obtain ⟨d, c, e1, rfl⟩ := r1
    obtain ⟨s0, e2, k1, k2, k3, k4, k5⟩ := srcRep_cases R1.src e1
    cases e2
    exact ⟨_, s.cells.length, rfl, .inl ⟨_, SqL.of k3, by rw [List.length_map]⟩, w _ F1 H1 l1 R1 x1 (RepEV.ofd (rep_int.mpr rfl)) trivial⟩
  · exact w.elim
theorem de_srcPop (ho : DE X C o mo) (hbase : attributeBase o "pop" X.env (eval o X.env) = eval o X.env := by rfl) (hline : (apos.endLine == cpos.line) = true := by rfl) :
    DE X C (.Call (.Attribute o "pop" apos) [] [] cpos) (mSrcPop mo) := by
  refine ⟨fun hK => ?_⟩
  obtain ⟨t, h1, s1⟩ := ho.run hK
  refine ⟨_, pe_bm0 PySem.F.plainAttrs_list PySem.F.slot_list_pop PySem.F.type_list_pop (id := "list.pop") (show MtR X "list.pop" rPop from mt_pop) h1 hbase hline, fun σ F H l env g Q R w => ?_⟩
  refine s1 σ F H l env g _ R (Wp.mono (Wp.bind.mp w) (fun ev env1 g1 w v F1 H1 l1 R1 x1 r1 f1 => ?_) fun _ _ _ _ w => w)
  split at w
  · rename_i s
    split at w
    · rename_i i hi
      obtain ⟨d, c, e1, rfl⟩ := r1
      obtain ⟨s0, e2, k1, k2, k3, k4, k5⟩ := srcRep_cases R1.src e1
      cases e2
      obtain ⟨R3, x3⟩ := R1.srcW (s' := { s with cells := s.cells.dropLast }) (H' := upd H1 c (.lst (s.cells.map V.int).dropLast)) e1 (by rw [upd_ne k1]; exact k2) (by rw [upd_same, ← List.map_dropLast]) fun b _ n2 => upd_ne n2
      refine ⟨.inl ⟨rfl, _, SqL.of k3⟩, c, s.cells.map V.int, .int i, rfl, rfl, k3, by rw [List.length_map, List.getElem?_map, hi]; rfl, ?_⟩
      exact w _ F1 _ l1 R3 (x1.trans (C := C) x3) (RepEV.ofd (rep_int.mpr rfl)) trivial
    · exact w.elim
  · exact w.elim
theorem walks_sql {K : PySem.W.Frag} {F : Hp} {a : Addr} {vs : List V} {ds : List PyData} (h : SqL K F a vs) (r : RepL K F vs ds) : Walks K (Itl K a) ds F where
  go := fun F' H' i s1 s2 hi => by
    rw [← r.length] at hi
    exact ⟨vs, vs[i], SqL.up s2 (SqL.up s1 h), by simp [hi]⟩
  yl := fun F' H' i v H2 s1 s2 hi y => by
    obtain ⟨rfl, y⟩ := y
    obtain ⟨d, hd, rd⟩ := r.get (y vs (SqL.up s2 (SqL.up s1 h)))
    exact ⟨F', d, hd, New.same s2 (Rep.up s1 _ _ rd)⟩
  st := fun F' H' s1 s2 => ⟨vs, SqL.up s2 (SqL.up s1 h), Nat.le_of_eq r.length⟩
theorem di_scr {tg : Expr} (ho : DE X C o mo) : DI X C tg o (mScrItems mo) := by
  refine ⟨fun hK => ?_⟩
  obtain ⟨t, h1, s1⟩ := ho.run hK
  refine ⟨_, pi_seq h1, fun σ F H l env g R Rl w => ?_⟩
  refine s1 σ F H l env g _ Rl (Wp.mono (Wp.bind.mp w) (fun ev env1 g1 w v F1 H1 l1 R1 x1 r1 f1 => ?_) fun _ _ _ _ w => w)
  split at w
  · rename_i ns
    obtain ⟨a, rfl, q⟩ := r1
    exact .inl ⟨a, rfl, ⟨_, by rw [← hK]; exact SqL.up R1.sub q⟩, by rw [← hK]; exact w _ F1 H1 l1 R1 x1 (walks_sql q (repL_ints ns))⟩
  · exact w.elim
/-- the new source -/
def srcNewD (a b c d : EV) (g : G) : Option Src := match a, b, c, d, g with
  | .fr (.list ds), .d (.int l), .d (.int m), .d (.int t), none => (intsOf ds).map fun ns => ⟨ns, l, m, t⟩
  | _, _, _, _, _ => none
theorem srcNewD_inv {a b c d : EV} {g : G} {s : Src} (h : srcNewD a b c d g = some s) : a = .fr (.list (s.cells.map .int)) ∧ b = .d (.int s.left) ∧ c = .d (.int s.mixed) ∧ d = .d (.int s.turn) ∧ g = none := by
  unfold srcNewD at h
  split at h
  · obtain ⟨ns, q, rfl⟩ := Option.map_eq_some_iff.mp h
    rw [intsOf_eq q]
    exact ⟨rfl, rfl, rfl, rfl, rfl⟩
  · cases h
def mSrcNew (m1 m2 m3 m4 : M EV) : M EV := m1.bind fun a => m2.bind fun b => m3.bind fun c => m4.bind fun d => fun env g => match srcNewD a b c d g with
  | some s => .ok (.src false) env (some s)
  | none => .bad
theorem de_srcNew {e1 e2 e3 e4 : Expr} {m1 m2 m3 m4 : M EV} {j1 j2 j3 j4 : Nat} {p1 p2 p3 p4 : Pos} (h1 : DE X C e1 m1) (h2 : DE X C e2 m2) (h3 : DE X C e3 m3) (h4 : DE X C e4 m4) :
    DE X C (.Dict [some (.Constant (.str "cells") j1 p1), some (.Constant (.str "left") j2 p2), some (.Constant (.str "mixed") j3 p3), some (.Constant (.str "turn") j4 p4)] [e1, e2, e3, e4] pos) (mSrcNew m1 m2 m3 m4) := by
  refine ⟨fun hK => ?_⟩
  obtain ⟨t1, k1, s1⟩ := h1.run hK
  obtain ⟨t2, k2, s2⟩ := h2.run hK
  obtain ⟨t3, k3, s3⟩ := h3.run hK
  obtain ⟨t4, k4, s4⟩ := h4.run hK
  refine ⟨_, pe_disp (pps_cons pe_str k1 (pps_cons pe_str k2 (pps_cons pe_str k3 (pps_cons pe_str k4 pps_nil)))) rfl rfl (by simp) (by simp), fun σ F H l env g Q R w => ?_⟩
  intro P hP
  have nF : F P = none := none_sub R.sub hP
  have nw : New C.K F H F (upd H P (.dK [])) (V.ref P) (.fr (.dict [])) :=
    ⟨.refl _, Same.upd hP, R.sub.trans (Same.upd hP), fun _ e => .inl e, P, rfl, hP, nF, [], upd_same, by simp only [RepD]⟩
  obtain ⟨R0, x0, r0⟩ := R.new nw
  obtain ⟨P', eP, oP, fP, zP, sP, wP⟩ := r0
  cases eP
  refine s1 σ F _ l env g _ R0 (Wp.mono (Wp.bind.mp w) (fun a env1 g1 w v1 F1 H1 l1 R1 x1 r1 f1 => ?_) fun _ _ _ _ w => w)
  refine s2 σ F1 H1 l1 env1 g1 _ R1 (Wp.mono (Wp.bind.mp w) (fun b env2 g2 w v2 F2 H2 l2 R2 x2 r2 f2 => ?_) fun _ _ _ _ w => w)
  refine s3 σ F2 H2 l2 env2 g2 _ R2 (Wp.mono (Wp.bind.mp w) (fun c env3 g3 w v3 F3 H3 l3 R3 x3 r3 f3 => ?_) fun _ _ _ _ w => w)
  refine s4 σ F3 H3 l3 env3 g3 _ R3 (Wp.mono (Wp.bind.mp w) (fun d env4 g4 wf v4 F4 H4 l4 R4 x4 r4 f4 => ?_) fun _ _ _ _ w => w)
  have x24 := x2.trans (C := C) (x3.trans (C := C) x4)
  have x14 := x1.trans (C := C) x24
  have hP4 : H4 P = some (.dK []) := x14.hk P _ upd_same wP sP
  have nP4 : F4 P = none := Classical.byContradiction fun z => by
    rcases x14.gr P z with q | q | q
    · exact q fP
    · rw [upd_same] at q; cases q
    · exact wP q
  cases q0 : srcNewD a b c d g4 with
  | none => rw [q0] at wf; exact wf.elim
  | some sn =>
      rw [q0] at wf
      obtain ⟨rfl, rfl, rfl, rfl, rfl⟩ := srcNewD_inv q0
      obtain ⟨D, rfl, oD, fD, zD, sD, wD⟩ := r1.up x24
      obtain ⟨vs, hD, rl⟩ := oD
      have evs := repL_ints_of rl
      subst evs
      have e2 : v2 = .int sn.left := rep_int.mp (show Rep C.K F2 v2 (.int sn.left) from r2)
      have e3 : v3 = .int sn.mixed := rep_int.mp (show Rep C.K F3 v3 (.int sn.mixed) from r3)
      have e4 : v4 = .int sn.turn := rep_int.mp (show Rep C.K F4 v4 (.int sn.turn) from r4)
      subst e2 e3 e4
      have PD : P ≠ D := fun z => by
        rw [z, hD] at hP4
        cases hP4
      have el : l4 = none := by
        have := R4.src
        cases l4 with
        | none => rfl
        | some p => exact this.elim
      refine ⟨hP4, srcKV D sn, rfl, by simp [srcKV], ?_⟩
      have em : mergeK [] (srcKV D sn) = srcKV D sn := by
        simp [mergeK, srcKV, putK, ne_cl, ne_cm, ne_ct, ne_lm, ne_lt, ne_mt]
      rw [em]
      have C0P : C.H0 P = none := zP
      have up4 : ∀ b, b ≠ P → upd H4 P (.dK (srcKV D sn)) b = H4 b := fun b h => upd_ne h
      have at_ : ∀ b, SrcAt (some (P, D)) b ↔ b = P ∨ b = D := fun b => ⟨fun ⟨p, e, q⟩ => by cases e; exact q, fun q => ⟨_, rfl, q⟩⟩
      have owP : ¬ OwnAt σ env4 P := fun z => wP (x14.ow P z)
      have stay : ∀ b, H4 b ≠ none → upd H4 P (.dK (srcKV D sn)) b ≠ none := fun b e => by
        by_cases z : b = P
        · rw [z, upd_same]; simp
        · rw [up4 b z]; exact e
      have x04 : Ext σ F H l env F4 H4 l4 env4 := Ext.trans (C := C) x0 x14
      refine wf (V.ref P) F4 _ (some (P, D)) ⟨fun b o e => ?_, R4.len, R4.dat, fun i x e => ?_, R4.inj, R4.iscr, fun i z e => ?_, ⟨PD, upd_same, by rw [up4 D (Ne.symm PD)]; exact hD, nP4, fD⟩, fun b o e n => ?_, fun b e => stay b (R4.oldd b e), R4.f0, R4.fo, fun b z => ?_, fun p e => ?_⟩
        ⟨x04.fs, fun b e => stay b (x04.hd b e), fun b o e n1 n2 => ?_, x04.gr, x04.ow, fun p e => ?_, fun b z => ?_⟩ ⟨P, D, rfl, rfl⟩ trivial
      · rw [up4 b (ne_of_none e nP4)]; exact R4.sub _ _ e
      · obtain ⟨q, q1, q2, q3, q4, q5⟩ := R4.own i x e
        have oq : OwnAt σ env4 q := ⟨i, x, e, q1⟩
        have qP : q ≠ P := fun z => owP (z ▸ oq)
        have qD : q ≠ D := fun z => wD (z ▸ oq)
        exact ⟨q, q1, q2.up (.refl _) fun o h => by rw [up4 q qP]; exact h, q3, q4, fun z => ((at_ q).mp z).elim qP qD⟩
      · obtain ⟨d', c', q1, _⟩ := R4.isrc i z e
        rw [el] at q1; cases q1
      · have bP : b ≠ P := fun z => by rw [z, C0P] at e; cases e
        rw [up4 b bP]; exact R4.old b o e n
      · rcases (at_ b).mp z with q | q
        · rw [q]; exact .inr C0P
        · rw [q]; exact .inr zD
      · have := R4.l0 p e
        rw [el] at this; cases this
      · have bP : b ≠ P := fun z => by rw [z, hP] at e; cases e
        rw [up4 b bP]; exact x04.hk b o e n1 n2
      · have := x04.ls p e
        rw [el] at this; cases this
      · rcases (at_ b).mp z with q | q
        · rw [q]; exact .inr hP
        · rw [q]
          have := f1 D rfl
          by_cases z : D = P
          · exact absurd z.symm PD
          · rw [upd_ne z] at this; exact .inr this
/-- {} -/
theorem de_dict0 : DE X C (.Dict [] [] pos) (M.pure (.fr (.dict []))) := ⟨fun _ => ⟨_, pe_dnewK, fun σ F H l env g Q R w => fun q hq => (KE.res (r := .fr (.dict [])) R w).dict R.sub hq (by simp only [RepD])⟩⟩
end
end DL
namespace DL
open PySem L2
/-! ### short forms, for printed derivations -/
section
variable {X : Cx} {C : DCx}
theorem vV (i : Nat) {x : Str} {pos : Pos} (hN : X.N[i]? = some x := by rfl) (hv : Vis X.env.scope x := by first | exact Or.inl rfl | exact Or.inr (Or.inl rfl) | exact Or.inr (Or.inr rfl)) (hd : (x == ("__debug__" : Str)) = false := by decide)
    (hcd : (x == ("__classdict__" : Str)) = false := by decide) : DE X C (.Name x pos) (mVar i) := de_var (pe_var hN hv hd hcd)
theorem vB (i : Nat) {x : Str} {pos : Pos} (hN : X.N[i]? = some x := by rfl) (hv : Vis X.env.scope x := by first | exact Or.inl rfl | exact Or.inr (Or.inl rfl) | exact Or.inr (Or.inr rfl)) (hd : (x == ("__debug__" : Str)) = false := by decide)
    (hcd : (x == ("__classdict__" : Str)) = false := by decide) : DE X C (.Name x pos) (mVarB i) := de_varB (pe_var hN hv hd hcd)
theorem gN (i : Nat) {x : Str} {pos : Pos} (hN : X.N.Nodup) (hi : X.N[i]? = some x := by rfl) (hx : L2.Loc X.env.scope x := by first | exact .inl rfl | exact .inr rfl) (hf : X.fn x = true ∨ X.env.scope.names.lookup x = some .local := by first | exact .inl rfl | exact .inr rfl) :
    DG X C (.Name x pos) (.nm i) := dg_of (pg_name hN hi hx hf)
theorem sSet (i : Nat) {x : Str} {e : Expr} {m : M EV} {pos pos' : Pos} (hN : X.N.Nodup) (h : DE X C e m) (hi : X.N[i]? = some x := by rfl) (hx : L2.Loc X.env.scope x := by first | exact .inl rfl | exact .inr rfl)
    (hs : swapsWith e (some (.Name x pos')) pos.line X.env = pure false := by rfl) (hf : X.fn x = true ∨ X.env.scope.names.lookup x = some .local := by first | exact .inl rfl | exact .inr rfl) :
    DS X C (.Assign [.Name x pos'] e pos) (mSet i m) := ds_set hN hi hx h hs hf
/-- a def that may be called -/
structure Cal (P : Program) (w : World) (K : PySem.W.Frag) (mg : Str → Option Value) (base : Heap) (k : Nat) (x : Str) (ps : List Str) (fm : FM) : Prop where
  ex : ∃ (f : Addr) (fd : FuncData), mg x = some (.ref f) ∧ PySem.W.keepIn K (.ref f) = true ∧ Binds K fd ps [] ∧ FnD P w K mg base k f fd ps fm
theorem cC {k j n : Nat} {ps : List Str} {fm : FM} {x : Str} {p pos : Pos} {e : Expr} {es : List Expr} {m : M (List EV)} (c : Cal X.prog X.w X.K X.mg X.base j x ps fm) (hr : Room k X.A) (hgd : X.A.guards = some []) (ha : DA X C (e :: es) m) (hjk : j ≤ k := by first | decide | omega) (hg : Gl X x := by rfl)
    (hdb : (x == ("__debug__" : Str)) = false := by decide) (he : starEach (e :: es) X.env = (false, eval e X.env) :: starEach es X.env := by rfl) (hpl : (backTo pos (starEach es X.env)).any (·.1) = false := by rfl) (hn : ps.length = n := by rfl) :
    DE X C (.Call (.Name x p) (e :: es) [] pos) (mCall n fm m) := by
  subst hn
  obtain ⟨f, fd, h1, h2, h3, h4⟩ := c.ex
  exact de_call (h4.mono hjk) hr hgd hg h1 h2 h3 ha hdb he hpl
end
section
variable {P : Program} {w : World} {K : PySem.W.Frag} {mg : Str → Option Value} {base : Heap}
open PySem.Spec PyProof.Rows
theorem fnd_ok {x : Str} {st : Stmt} {f : Addr} {fd : FuncData} {N ps : List Str} {k : Nat} {mb : M Fl} (Fu : Fun K x x st f fd) (S : FnScope N ps (defScope st))
    (hbody : ∀ (cdv : Value) (A : Around) (outer : List Env) (s : Shared) (H F : Hp) (l : DL.Loc), Room k (A.deeper (envOfC x (defScope st) s.heap.objs.size f cdv)) → A.guards = some [] →
      DSs (cxOf CXN P w K mg base N x (defScope st) f cdv A outer s H XN).nox (cIn K F H l) (defBody st) mb) : FnD P w K mg base (k + 1) f fd ps (bodyRun N.length mb) := by
  obtain ⟨oc, od, kV, doc, pm, an, cdv, ct, osl, rfl, lk, hcd⟩ := Fu.ex
  exact fnd_of lk hcd S fun A outer s H F l hr hg => hbody cdv A outer s H F l hr hg
theorem cal_of {x : Str} {st : Stmt} {f : Addr} {fd : FuncData} {ps : List Str} {k : Nat} {fm : FM} (Fu : Fun K x x st f fd) (hm : mg x = some (.ref f)) (hb : Binds K fd ps []) (h : FnD P w K mg base k f fd ps fm) : Cal P w K mg base k x ps fm :=
  ⟨f, fd, hm, Fu.kp, hb, h⟩
theorem units_of {A : Around} {k : Nat} (hr : Room k A) : A.units + 65 < cLine := by have := hr.un; omega
end
end DL
namespace DL
open PySem L2
theorem hu64 {n : Nat} (h : n + 65 < cLine) : n + 64 < cLine := by omega
theorem hu1 {n : Nat} (h : n + 65 < cLine) : n + 1 < cLine := by omega
theorem bt_len : bootBuiltins "len" = some (.builtin "len") := by decide +kernel
theorem bt_abs : bootBuiltins "abs" = some (.builtin "abs") := by decide +kernel
theorem bt_max : bootBuiltins "max" = some (.builtin "max") := by decide +kernel
theorem bt_min : bootBuiltins "min" = some (.builtin "min") := by decide +kernel
theorem bt_sum : bootBuiltins "sum" = some (.builtin "sum") := by decide +kernel
theorem bt_all : bootBuiltins "all" = some (.builtin "all") := by decide +kernel
theorem bt_any : bootBuiltins "any" = some (.builtin "any") := by decide +kernel
theorem bt_sorted : bootBuiltins "sorted" = some (.builtin "sorted") := by decide +kernel
theorem bt_int : bootBuiltins "int" = some (.type "int") := by decide +kernel
theorem bt_bool : bootBuiltins "bool" = some (.type "bool") := by decide +kernel
theorem bt_str : bootBuiltins "str" = some (.type "str") := by decide +kernel
theorem bt_list : bootBuiltins "list" = some (.type "list") := by decide +kernel
theorem bt_tuple : bootBuiltins "tuple" = some (.type "tuple") := by decide +kernel
end DL
namespace DL
open PySem L2
/-! ### mirrors, evaluated -/
abbrev NoX : Str → PyData → Env' → G → Prop := fun _ _ _ _ => False
theorem backE_get_in {e0 e : Env'} {i : Nat} {s : Slot} : ∀ {vs : List Nat}, i ∈ vs → e0[i]? = some s → i < e.length → (backE e0 e vs)[i]? = some s
  | v :: vs, hi, h0, hl => by
    unfold backE
    by_cases z : v = i
    · subst z
      rw [h0]
      dsimp only
      rw [List.getElem?_set_self (by rw [backE_length]; exact hl)]
    · have hi' : i ∈ vs := by
        rcases List.mem_cons.mp hi with q | q
        · exact absurd q.symm z
        · exact q
      split
      · rw [get_set_ne z]; exact backE_get_in hi' h0 hl
      · exact backE_get_in hi' h0 hl
theorem backE_get_out {e0 e : Env'} {i : Nat} : ∀ {vs : List Nat}, i ∉ vs → (backE e0 e vs)[i]? = e[i]?
  | [], _ => rfl
  | v :: vs, h => by
    rw [List.mem_cons, not_or] at h
    unfold backE
    split
    · rw [get_set_ne (fun z => h.1 z.symm)]; exact backE_get_out h.2
    · exact backE_get_out h.2
theorem backE_wipe (e : Env') (vs : List Nat) : backE e (wipeE e vs) vs = e := by
  refine List.ext_getElem? fun i => ?_
  by_cases hi : i ∈ vs
  · by_cases hl : i < e.length
    · rw [backE_get_in hi (List.getElem?_eq_getElem hl) (by rw [wipeE_length]; exact hl), List.getElem?_eq_getElem hl]
    · rw [List.getElem?_eq_none (by rw [backE_length, wipeE_length]; omega), List.getElem?_eq_none (by omega)]
  · rw [backE_get_out hi, wipeE_out hi]
theorem bind_eq {α β : Type} {m : M α} {f : α → M β} {e e' : Env'} {g g' : G} {a : α} (h : m e g = .ok a e' g') : M.bind m f e g = f a e' g' := by
  unfold M.bind
  rw [h]
/-! comprehensions -/
theorem loopC_ok {p : Pat} {vs : List Nat} {mt : M Bool} {me : M PyData} {t : PyData → Bool} {f : PyData → PyData} {e : Env'} {g : G} : ∀ (xs acc : List PyData), acc.length + xs.length ≤ sizeLine →
    (∀ x ∈ xs, ∃ e1, asg p x e = some e1 ∧ wipeE e1 vs = e ∧ mt e1 g = .ok (t x) e1 g ∧ (t x = true → me e1 g = .ok (f x) e1 g)) → loopC p vs mt me xs acc e g = .ok (acc ++ (xs.filter t).map f) e g
  | [], acc, _, _ => by simp [loopC, M.pure]
  | x :: xs, acc, hz, h => by
    obtain ⟨e1, h1, h2, h3, h4⟩ := h x (by simp)
    have hx : ∀ y ∈ xs, _ := fun y hy => h y (List.mem_cons_of_mem _ hy)
    rw [List.length_cons] at hz
    unfold loopC
    simp only [h1]
    rw [bind_eq h3]
    by_cases ht : t x = true
    · have h4' := h4 ht
      have hlt : acc.length < sizeLine := by omega
      rw [if_pos ht, bind_eq h4', if_pos hlt, h2, loopC_ok xs (acc ++ [f x]) (by simp; omega) hx]
      simp [List.filter_cons, ht]
    · have ht' : t x = false := by simpa using ht
      rw [if_neg ht, h2, loopC_ok xs acc (by omega) hx]
      simp [List.filter_cons, ht']
/-- a comprehension that changes nothing -/
theorem mComp_ok {p : Pat} {vs : List Nat} {mi : M (List PyData)} {mt : M Bool} {me : M PyData} (t : PyData → Bool) (f : PyData → PyData) {env env1 : Env'} {g g1 : G} {xs : List PyData} (hi : mi env g = .ok xs env1 g1) (no : noOwn env1 vs = true) (hz : xs.length ≤ sizeLine)
    (h : ∀ x ∈ xs, ∃ e1, asg p x (wipeE env1 vs) = some e1 ∧ wipeE e1 vs = wipeE env1 vs ∧ mt e1 g1 = .ok (t x) e1 g1 ∧ (t x = true → me e1 g1 = .ok (f x) e1 g1)) :
    mComp p vs mi mt me env g = .ok (.fr (.list ((xs.filter t).map f))) env1 g1 := by
  unfold mComp blockOf
  simp only [M.bind, hi, no, if_true, M.pure]
  rw [loopC_ok xs [] (by simpa using hz) h]
  simp [backE_wipe]
theorem mComp_all {p : Pat} {vs : List Nat} {mi : M (List PyData)} {me : M PyData} (f : PyData → PyData) {env env1 : Env'} {g g1 : G} {xs : List PyData} (hi : mi env g = .ok xs env1 g1) (no : noOwn env1 vs = true) (hz : xs.length ≤ sizeLine)
    (h : ∀ x ∈ xs, ∃ e1, asg p x (wipeE env1 vs) = some e1 ∧ wipeE e1 vs = wipeE env1 vs ∧ me e1 g1 = .ok (f x) e1 g1) :
    mComp p vs mi mYes me env g = .ok (.fr (.list (xs.map f))) env1 g1 := by
  have q := mComp_ok (mt := mYes) (fun _ => true) f hi no hz fun x hx => let ⟨e1, h1, h2, h3⟩ := h x hx; ⟨e1, h1, h2, rfl, fun _ => h3⟩
  rw [List.filter_eq_self.mpr (by simp)] at q
  exact q
/-- .. that changes things: I rest acc -/
theorem mComp_wp {p : Pat} {vs : List Nat} {mi : M (List PyData)} {mt : M Bool} {me : M PyData} {env env1 : Env'} {g g1 : G} {xs : List PyData} {K : EV → Env' → G → Prop} {E : Str → PyData → Env' → G → Prop} (I : List PyData → List PyData → Env' → G → Prop) (hi : mi env g = .ok xs env1 g1) (no : noOwn env1 vs = true)
    (h0 : I xs [] (wipeE env1 vs) g1)
    (hs : ∀ x rest acc e g, I (x :: rest) acc e g → ∃ e1, asg p x e = some e1 ∧ Wp (mt e1 g) (fun b e2 g2 => if b = true then Wp (me e2 g2) (fun y e3 g3 => acc.length < sizeLine ∧ I rest (acc ++ [y]) (wipeE e3 vs) g3) NoX else I rest acc (wipeE e2 vs) g2) NoX)
    (he : ∀ acc e g, I [] acc e g → K (.fr (.list acc)) (backE env1 e vs) g) : Wp (mComp p vs mi mt me env g) K E := by
  have main : ∀ (xs acc : List PyData) (e : Env') (g : G), I xs acc e g → Wp (loopC p vs mt me xs acc e g) (fun ys e' g' => K (.fr (.list ys)) (backE env1 e' vs) g') NoX := by
    intro xs
    induction xs with
    | nil => intro acc e g h; exact he acc e g h
    | cons x xs ih =>
      intro acc e g h
      obtain ⟨e1, h1, h2⟩ := hs x xs acc e g h
      unfold loopC
      simp only [h1]
      refine Wp.bind.mpr (h2.mono (fun b e2 g2 w => ?_) fun _ _ _ _ w => w)
      cases b with
      | true =>
        rw [if_pos rfl] at w ⊢
        refine Wp.bind.mpr (w.mono (fun y e3 g3 w => ?_) fun _ _ _ _ w => w)
        rw [if_pos w.1]
        exact ih _ _ _ w.2
      | false =>
        rw [if_neg Bool.false_ne_true] at w ⊢
        exact ih _ _ _ w
  have hw := main xs [] _ _ h0
  unfold mComp blockOf
  simp only [M.bind, hi, no, if_true]
  cases q : loopC p vs mt me xs [] (wipeE env1 vs) g1 with
  | ok ys e' g' => rw [q] at hw; exact hw
  | exc _ _ _ _ => rw [q] at hw; exact hw.elim
  | bad => rw [q] at hw; exact hw.elim
/-! loops -/
theorem forD_wp {p : Pat} {mb : M Fl} {K : Fl → Env' → G → Prop} {E : Str → PyData → Env' → G → Prop} (I : List PyData → Env' → G → Prop)
    (hs : ∀ x rest e g, I (x :: rest) e g → ∃ e1, asg p x e = some e1 ∧ Wp (mb e1 g) (fun fl e2 g2 => match fl with
      | .nx => I rest e2 g2
      | .ct => I rest e2 g2
      | .bk => K .nx e2 g2
      | .rt v => K (.rt v) e2 g2) E)
    (he : ∀ e g, I [] e g → K .nx e g) : ∀ (xs : List PyData) (e : Env') (g : G), I xs e g → Wp (forD p mb xs e g) K E
  | [], e, g, h => he e g h
  | x :: xs, e, g, h => by
    obtain ⟨e1, h1, h2⟩ := hs x xs e g h
    unfold forD
    simp only [h1]
    refine Wp.bind.mpr (h2.mono (fun fl e2 g2 w => ?_) fun _ _ _ _ w => w)
    cases fl with
    | nx => exact forD_wp I hs he xs e2 g2 w
    | ct => exact forD_wp I hs he xs e2 g2 w
    | bk => exact w
    | rt v => exact w
theorem mFor_wp {p : Pat} {mi : M (List PyData)} {mb : M Fl} {K : Fl → Env' → G → Prop} {E : Str → PyData → Env' → G → Prop} {env env1 : Env'} {g g1 : G} {xs : List PyData} (I : List PyData → Env' → G → Prop) (hi : mi env g = .ok xs env1 g1) (h0 : I xs env1 g1)
    (hs : ∀ x rest e g, I (x :: rest) e g → ∃ e1, asg p x e = some e1 ∧ Wp (mb e1 g) (fun fl e2 g2 => match fl with
      | .nx => I rest e2 g2
      | .ct => I rest e2 g2
      | .bk => K .nx e2 g2
      | .rt v => K (.rt v) e2 g2) E)
    (he : ∀ e g, I [] e g → K .nx e g) : Wp (mFor p mi mb env g) K E := by
  unfold mFor
  simp only [M.bind, hi]
  exact forD_wp I hs he xs env1 g1 h0
/-- a loop whose body goes on, by a step of the slots -/
theorem forD_fold {p : Pat} {mb : M Fl} {g : G} (st : Env' → PyData → Env') : ∀ (xs : List PyData) (e : Env'), (∀ x ∈ xs, ∀ pre, pre ++ [x] <+: xs → ∃ e1, asg p x (pre.foldl st e) = some e1 ∧ mb e1 g = .ok .nx (st (pre.foldl st e) x) g) → forD p mb xs e g = .ok .nx (xs.foldl st e) g
  | [], e, _ => rfl
  | x :: xs, e, h => by
    obtain ⟨e1, h1, h2⟩ := h x (by simp) [] (by simp)
    unfold forD
    simp only [List.foldl_nil] at h1 h2
    simp only [h1, M.bind, h2]
    rw [forD_fold st xs (st e x) fun y hy pre hp => by
      have := h y (List.mem_cons_of_mem _ hy) (x :: pre) (by simpa using hp)
      simpa using this]
    rfl
/-! calls -/
theorem mCall_ok {n : Nat} {fm : FM} {m : M (List EV)} {env env1 e2 : Env'} {g g1 g2 : G} {evs : List EV} {ev : EV} (hm : m env g = .ok evs env1 g1) (ha : evs.all isArg = true) (hn : evs.length = n) (h : fm evs g1 = .ok ev e2 g2) : mCall n fm m env g = .ok ev env1 g2 := by
  unfold mCall
  simp only [M.bind, hm]
  rw [if_pos ⟨ha, hn⟩, h]
theorem mCall_wp {n : Nat} {fm : FM} {m : M (List EV)} {env : Env'} {g : G} {K : EV → Env' → G → Prop} {E : Str → PyData → Env' → G → Prop} (hm : Wp (m env g) (fun evs env1 g1 => evs.all isArg = true ∧ evs.length = n ∧ WpF (fm evs g1) fun ev g2 => K ev env1 g2) E) : Wp (mCall n fm m env g) K E := by
  unfold mCall
  refine Wp.bind.mpr (hm.mono (fun evs env1 g1 w => ?_) fun _ _ _ _ w => w)
  obtain ⟨ha, hn, w⟩ := w
  rw [if_pos ⟨ha, hn⟩]
  cases q : fm evs g1 with
  | ok ev e2 g2 => rw [q] at w; exact w
  | exc _ _ _ _ => rw [q] at w; exact w.elim
  | bad => rw [q] at w; exact w.elim
theorem wpf_run {n : Nat} {mb : M Fl} {evs : List EV} {g : G} {K : EV → G → Prop} (h : Wp (mb (startE n evs) g) (fun fl _ g' => match fl with
    | .rt (.bo _) => False
    | .rt (.scr _) => False
    | .rt ev => K ev g'
    | .nx => K (.d .none) g'
    | _ => False) NoX) : WpF (bodyRun n mb evs g) K := by
  unfold bodyRun
  cases q : mb (startE n evs) g with
  | bad => rw [q] at h; exact h.elim
  | exc _ _ _ _ => rw [q] at h; exact h.elim
  | ok fl e g' =>
    rw [q] at h
    cases fl with
    | nx => exact h
    | bk => exact h
    | ct => exact h
    | rt v => cases v <;> exact h
theorem WpF.of {r : R EV} {ev : EV} {e : Env'} {g : G} {K : EV → G → Prop} (h : r = .ok ev e g) (k : K ev g) : WpF r K := by rw [h]; exact k
/-! isinstance, by cases -/
theorem isi_int_none  : isiD "int" .none = false := rfl
theorem isi_int_bool (b : Bool) : isiD "int" (.bool b) = true := rfl
theorem isi_int_int (i : Int) : isiD "int" (.int i) = true := rfl
theorem isi_int_str (z : Str) : isiD "int" (.str z) = false := rfl
theorem isi_int_list (ds : List PyData) : isiD "int" (.list ds) = false := rfl
theorem isi_int_tuple (ds : List PyData) : isiD "int" (.tuple ds) = false := rfl
theorem isi_int_dict (kv : List (PyData × PyData)) : isiD "int" (.dict kv) = false := rfl
theorem isi_bool_none  : isiD "bool" .none = false := rfl
theorem isi_bool_bool (b : Bool) : isiD "bool" (.bool b) = true := rfl
theorem isi_bool_int (i : Int) : isiD "bool" (.int i) = false := rfl
theorem isi_bool_str (z : Str) : isiD "bool" (.str z) = false := rfl
theorem isi_bool_list (ds : List PyData) : isiD "bool" (.list ds) = false := rfl
theorem isi_bool_tuple (ds : List PyData) : isiD "bool" (.tuple ds) = false := rfl
theorem isi_bool_dict (kv : List (PyData × PyData)) : isiD "bool" (.dict kv) = false := rfl
theorem isi_str_none  : isiD "str" .none = false := rfl
theorem isi_str_bool (b : Bool) : isiD "str" (.bool b) = false := rfl
theorem isi_str_int (i : Int) : isiD "str" (.int i) = false := rfl
theorem isi_str_str (z : Str) : isiD "str" (.str z) = true := rfl
theorem isi_str_list (ds : List PyData) : isiD "str" (.list ds) = false := rfl
theorem isi_str_tuple (ds : List PyData) : isiD "str" (.tuple ds) = false := rfl
theorem isi_str_dict (kv : List (PyData × PyData)) : isiD "str" (.dict kv) = false := rfl
theorem isi_tuple_none  : isiD "tuple" .none = false := rfl
theorem isi_tuple_bool (b : Bool) : isiD "tuple" (.bool b) = false := rfl
theorem isi_tuple_int (i : Int) : isiD "tuple" (.int i) = false := rfl
theorem isi_tuple_str (z : Str) : isiD "tuple" (.str z) = false := rfl
theorem isi_tuple_list (ds : List PyData) : isiD "tuple" (.list ds) = false := rfl
theorem isi_tuple_tuple (ds : List PyData) : isiD "tuple" (.tuple ds) = true := rfl
theorem isi_tuple_dict (kv : List (PyData × PyData)) : isiD "tuple" (.dict kv) = false := rfl
theorem isi_list_none  : isiD "list" .none = false := rfl
theorem isi_list_bool (b : Bool) : isiD "list" (.bool b) = false := rfl
theorem isi_list_int (i : Int) : isiD "list" (.int i) = false := rfl
theorem isi_list_str (z : Str) : isiD "list" (.str z) = false := rfl
theorem isi_list_list (ds : List PyData) : isiD "list" (.list ds) = true := rfl
theorem isi_list_tuple (ds : List PyData) : isiD "list" (.tuple ds) = false := rfl
theorem isi_list_dict (kv : List (PyData × PyData)) : isiD "list" (.dict kv) = false := rfl
/-! ### ints -/
def isort (ns : List Int) : List Int := ns.mergeSort fun a b => decide (a ≤ b)
theorem alike_ints (ns : List Int) : ((ns.map PyData.int).all fun d => (ns.map PyData.int).all fun d' => PySem.W.alike d d') = true := by
  simp [PySem.W.alike]
theorem sortOk_ints (ns : List Int) : sortOk (ns.map .int) = true := by
  unfold sortOk
  rw [alike_ints]
  simp [plainKey, PyData.depth]
theorem sortD_ints (ns : List Int) : sortD (ns.map .int) = (isort ns).map .int := by
  unfold sortD isort
  have h := PySem.W.sort_maps (r := PySem.W.dataLe false fun n : Int => PyData.int n) (s := PySem.W.dataLe false (id : PyData → PyData)) (fun n : Int => PyData.int n) (l := ns) fun a _ b _ => rfl
  rw [← h, PySem.W.dataLe_int (fun n : Int => n)]
theorem eqvAll_ints : ∀ a b : List Int, PyData.eqvAll (a.map .int) (b.map .int) = decide (a = b)
  | [], [] => by simp [PyData.eqvAll]
  | [], b :: bs => by simp [PyData.eqvAll]
  | a :: as, [] => by simp [PyData.eqvAll]
  | a :: as, b :: bs => by
    simp only [List.map_cons, PyData.eqvAll, PyData.eqv, eqvAll_ints as bs, List.cons.injEq]
    by_cases h1 : a = b <;> by_cases h2 : as = bs <;> simp [h1, h2]
theorem canLay_ints : ∀ a : List Int, PyData.canLayAll0 (a.map .int) = true
  | [] => by simp [PyData.canLayAll0]
  | a :: as => by simp [PyData.canLayAll0, PyData.canLay0, canLay_ints as]
theorem depth_ints : ∀ a : List Int, PyData.depthAll (a.map .int) = 0
  | [] => by simp [PyData.depthAll]
  | a :: as => by simp [PyData.depthAll, PyData.depth, depth_ints as]
theorem shaped_lints (a : List Int) : SeqAt.shaped (.list (a.map .int)) = true := by
  simp [SeqAt.shaped, PyData.canLay0, PyData.depth, canLay_ints, depth_ints]
theorem shaped_tints (a : List Int) : SeqAt.shaped (.tuple (a.map .int)) = true := by
  simp [SeqAt.shaped, PyData.canLay0, PyData.depth, canLay_ints, depth_ints]
theorem shaped_int (i : Int) : SeqAt.shaped (.int i) = true := by
  simp [SeqAt.shaped, PyData.canLay0, PyData.depth]
theorem eq_lints (a b : List Int) : pyEq (.list (a.map .int)) (.list (b.map .int)) = some (.d (.bool (decide (a = b)))) := by
  unfold pyEq eqOk
  rw [shaped_lints, shaped_lints]
  simp [PyData.eqv, eqvAll_ints]
theorem eq_tints (a b : List Int) : pyEq (.tuple (a.map .int)) (.tuple (b.map .int)) = some (.d (.bool (decide (a = b)))) := by
  unfold pyEq eqOk
  rw [shaped_tints, shaped_tints]
  simp [PyData.eqv, eqvAll_ints]
theorem ne_tints (a b : List Int) : pyNe (.tuple (a.map .int)) (.tuple (b.map .int)) = some (.d (.bool (decide (a ≠ b)))) := by
  unfold pyNe eqOk
  rw [shaped_tints, shaped_tints]
  simp [PyData.eqv, eqvAll_ints]
theorem eq_ints (a b : Int) : pyEq (.int a) (.int b) = some (.d (.bool (decide (a = b)))) := by
  unfold pyEq eqOk
  rw [shaped_int, shaped_int]
  by_cases h : a = b <;> simp [PyData.eqv, h]
theorem ne_ints (a b : Int) : pyNe (.int a) (.int b) = some (.d (.bool (decide (a ≠ b)))) := by
  unfold pyNe eqOk
  rw [shaped_int, shaped_int]
  by_cases h : a = b <;> simp [PyData.eqv, h]
theorem ne_nil (ds : List PyData) : pyNe (.list ds) (.list []) = some (.d (.bool (decide (ds ≠ [])))) := by
  cases ds with
  | nil => rfl
  | cons d ds => simp [pyNe, eqOk, otherLen, PyData.eqv, PyData.eqvAll]
/-- small ints from 0 -/
def ints0 (n : Nat) : List Int := (List.range n).map fun i : Nat => (i : Int)
theorem intsFrom_zero (n : Nat) : intsFrom 0 n = (ints0 n).map .int := by
  simp [intsFrom, ints0, Function.comp_def]
theorem rgInts_zero (n : Nat) : rgInts 0 (n : Int) = (ints0 n).map .int := by
  simp [rgInts, ints0, Function.comp_def]
theorem ints0_length (n : Nat) : (ints0 n).length = n := by simp [ints0]
theorem rgOk_nat {n : Nat} (h : n ≤ 2 ^ 24) : rgOk 0 (n : Int) = true := by
  unfold rgOk
  simp only [Bool.and_eq_true, decide_eq_true_eq]
  omega
theorem rgTo_nat {n : Nat} (h : n ≤ 2 ^ 24) : rgTo 0 (n : Int) = some ((ints0 n).map .int) := by
  unfold rgTo
  rw [rgOk_nat h, rgInts_zero]
  rfl
theorem rngTo_nat {n : Nat} (h : n ≤ 2 ^ 24) : rngTo 0 (n : Int) = some ((ints0 n).map .int) := by
  unfold rngTo
  rw [if_pos (by omega), Int.sub_zero, Int.toNat_natCast, intsFrom_zero]
theorem szd_of {ds : List PyData} (h : ds.length ≤ 2 ^ 24) : szd ds = some ds := by
  unfold szd
  rw [if_pos (by rw [sizeLine_eq]; omega)]
theorem add_tups {a b : List PyData} (h : a.length + b.length ≤ 2 ^ 24) : pyAdd (.tuple a) (.tuple b) = some (.d (.tuple (a ++ b))) := by
  have : a.length + b.length ≤ sizeLine := by rw [sizeLine_eq]; omega
  simp [pyAdd, this]
theorem add_lsts {a b : List PyData} (h : a.length + b.length ≤ 2 ^ 24) : pyAdd (.list a) (.list b) = some (.fr (.list (a ++ b))) := by
  have : a.length + b.length ≤ sizeLine := by rw [sizeLine_eq]; omega
  simp [pyAdd, this]
theorem add_ints (i j : Int) : pyAdd (.int i) (.int j) = some (.d (.int (i + j))) := rfl
theorem len_tup (ds : List PyData) : DL.pyLen [.tuple ds] = some (.d (.int (ds.length : Nat))) := rfl
theorem len_lst (ds : List PyData) : DL.pyLen [.list ds] = some (.d (.int (ds.length : Nat))) := rfl
theorem mRgL_nat {f : List PyData → RV} {m : M (Int × Int)} {env env1 : Env'} {g g1 : G} {n : Nat} (h : m env g = .ok (0, (n : Int)) env1 g1) (hn : n ≤ 2 ^ 24) : mRgL f m env g = .ok (f ((ints0 n).map .int)).ev env1 g1 := by
  unfold mRgL
  rw [bind_eq h, rgGo_eq, rgTo_nat hn]
  rfl
theorem isInt_ints {ds : List PyData} (h : (ds.all fun d => match d with | .int _ => true | _ => false) = true) : ∃ ns : List Int, ds = ns.map .int := by
  induction ds with
  | nil => exact ⟨[], rfl⟩
  | cons d ds ih =>
    rw [List.all_cons, Bool.and_eq_true] at h
    obtain ⟨ns, rfl⟩ := ih h.2
    cases d <;> first | (exact ⟨_ :: ns, rfl⟩) | (simp at h)
theorem get_cells (s : Src) : srcGetD s "cells" = some (.src true) := rfl
theorem get_left (s : Src) : srcGetD s "left" = some (.d (.int s.left)) := rfl
theorem get_mixed (s : Src) : srcGetD s "mixed" = some (.d (.int s.mixed)) := rfl
theorem get_turn (s : Src) : srcGetD s "turn" = some (.d (.int s.turn)) := rfl
theorem put_left (s : Src) (i : Int) : srcPutD s "left" i = some { s with left := i } := rfl
theorem put_mixed (s : Src) (i : Int) : srcPutD s "mixed" i = some { s with mixed := i } := rfl
theorem put_turn (s : Src) (i : Int) : srcPutD s "turn" i = some { s with turn := i } := rfl
theorem lt_ints (i j : Int) : pyCmpI (fun i j => decide (i < j)) (.int i) (.int j) = some (.d (.bool (decide (i < j)))) := rfl
theorem gt_ints (i j : Int) : pyCmpI (fun i j => decide (j < i)) (.int i) (.int j) = some (.d (.bool (decide (j < i)))) := rfl
theorem le_ints (i j : Int) : pyCmpI (fun i j => decide (i ≤ j)) (.int i) (.int j) = some (.d (.bool (decide (i ≤ j)))) := rfl
theorem ge_ints (i j : Int) : pyCmpI (fun i j => decide (j ≤ i)) (.int i) (.int j) = some (.d (.bool (decide (j ≤ i)))) := rfl
theorem int_int (i : Int) : pyInt [.int i] = some (.d (.int i)) := rfl
theorem max2_ints (i j : Int) : pyMax2 [.int i, .int j] = some (.d (.int (max i j))) := by
  have e : (if j > i then j else i) = max i j := by
    by_cases h : j > i
    · rw [if_pos h, Int.max_eq_right (by omega)]
    · rw [if_neg h, Int.max_eq_left (by omega)]
  show some (RV.d (.int (if j > i then j else i))) = _
  rw [e]
theorem mod_ints {i j : Int} (h : 0 < j) : pyMod (.int i) (.int j) = some (.d (.int (i % j))) := by simp [pyMod, h]
theorem fdiv_ints {i j : Int} (h : 0 < j) (h2 : j ≤ 1000000000) : pyFloorDiv (.int i) (.int j) = some (.d (.int (i / j))) := by
  have : j.natAbs.log2 < 9000 := by
    have h3 : j.natAbs < 2 ^ 30 := by omega
    have := (Nat.log2_lt (by omega)).mpr h3
    omega
  simp [pyFloorDiv, h, this]
theorem mul_right {i j : Int} (h : j.natAbs < 2 ^ 64) : pyMul (.int i) (.int j) = some (.d (.int (i * j))) := by
  have : mulOk i j = true := by simp [mulOk, h]
  simp [pyMul, this]
end DL
namespace DL
open PySem L2
/-! ### data that is small: what repr asks -/
def atomOk : PyData → Bool
  | .none => true
  | .bool _ => true
  | .int i => decide (i.natAbs < 10 ^ 40)
  | .str z => decide ((reprText z).length ≤ 50)
  | .dict kvs => kvs.isEmpty
  | _ => false
/-- at most k rows within one another, at most 12 items in each -/
def RL : Nat → PyData → Bool
  | 0, x => atomOk x
  | k + 1, x => atomOk x || match x with
    | .list ds => decide (ds.length ≤ 12) && ds.all (RL k)
    | .tuple ds => decide (ds.length ≤ 12) && ds.all (RL k)
    | _ => false
def bnd : Nat → Nat
  | 0 => 60
  | k + 1 => 4 + 12 * (bnd k + 2)
theorem textFrom_le {b : Nat} : ∀ (ts : List Str) (k : Nat) (acc : Str), (∀ t ∈ ts, t.length ≤ b) → (textFrom k acc ts).length ≤ acc.length + ts.length * (b + 2)
  | [], k, acc, _ => by show acc.length ≤ _; omega
  | t :: r, k, acc, h => by
    have ih := textFrom_le r (k + 1) (acc ++ (if k > 0 then ", " else "" : String) ++ t) fun x hx => h x (List.mem_cons_of_mem _ hx)
    have e : (acc ++ (if k > 0 then ", " else "" : String) ++ t).length ≤ acc.length + 2 + t.length := by
      rw [strLen_append, strLen_append]
      split
      · exact Nat.le_refl _
      · show acc.length + 0 + t.length ≤ _
        omega
    have ht := h t (by simp)
    rw [List.length_cons, Nat.add_mul, Nat.one_mul]
    show (textFrom (k + 1) _ r).length ≤ _
    omega
theorem listText_le {b : Nat} {ts : List Str} (h : ∀ t ∈ ts, t.length ≤ b) : (listText ts).length ≤ 4 + ts.length * (b + 2) := by
  have h1 := textFrom_le ts 0 "[" h
  have e0 : ("[" : Str).length = 1 := rfl
  have e1 : ("]" : Str).length = 1 := rfl
  unfold listText
  rw [strLen_append, e1]
  rw [e0] at h1
  omega
theorem piled_le {b : Nat} : ∀ {ts : List Str}, (∀ t ∈ ts, t.length ≤ b) → piled ts ≤ ts.length * (b + 2)
  | [], _ => by simp [piled]
  | t :: r, h => by
    have ih := piled_le (ts := r) fun x hx => h x (List.mem_cons_of_mem _ hx)
    have ht := h t (by simp)
    rw [List.length_cons, Nat.add_mul, Nat.one_mul]
    simp only [piled, List.map_cons, List.sum_cons] at ih ⊢
    omega
theorem tupleText_le {b : Nat} {ts : List Str} (h : ∀ t ∈ ts, t.length ≤ b) : (tupleText ts).length ≤ 4 + ts.length * (b + 2) := by
  have h1 := piled_le h
  have hj : (Str.join ", " ts).length ≤ piled ts := by
    by_cases z : ts = []
    · subst z; exact Nat.le_refl _
    · have := join_length_add ts z
      omega
  have e0 : ("(" : Str).length = 1 := rfl
  unfold tupleText
  rw [strLen_append, strLen_append, e0]
  split
  · show 1 + _ + 2 ≤ _
    omega
  · show 1 + _ + 1 ≤ _
    omega
theorem shownAll_mem : ∀ {ds : List PyData} {t : Str}, t ∈ PyData.shownAll ds → ∃ d ∈ ds, t = d.shown
  | [], t, h => by simp [PyData.shownAll] at h
  | d :: ds, t, h => by
    rw [PyData.shownAll] at h
    rcases List.mem_cons.mp h with q | q
    · exact ⟨d, by simp, q⟩
    · obtain ⟨e, he, q⟩ := shownAll_mem q
      exact ⟨e, List.mem_cons_of_mem _ he, q⟩
theorem shownAll_len : ∀ ds : List PyData, (PyData.shownAll ds).length = ds.length
  | [] => rfl
  | d :: ds => by rw [PyData.shownAll, List.length_cons, shownAll_len ds, List.length_cons]
theorem showableAll_of : ∀ {ds : List PyData}, (∀ d ∈ ds, d.showable = true) → PyData.showableAll ds = true
  | [], _ => by simp [PyData.showableAll]
  | d :: ds, h => by
    rw [PyData.showableAll, h d (by simp), showableAll_of fun x hx => h x (List.mem_cons_of_mem _ hx)]
    rfl
theorem depthAll_le {k : Nat} : ∀ {ds : List PyData}, (∀ d ∈ ds, d.depth ≤ k) → PyData.depthAll ds ≤ k
  | [], _ => by simp [PyData.depthAll]
  | d :: ds, h => by
    have h1 := h d (by simp)
    have h2 := depthAll_le (ds := ds) fun x hx => h x (List.mem_cons_of_mem _ hx)
    rw [PyData.depthAll]
    omega
theorem atom_shown {x : PyData} (h : atomOk x = true) : x.showable = true ∧ x.depth ≤ 1 ∧ x.shown.length ≤ 60 := by
  cases x with
  | none => exact ⟨by simp [PyData.showable], by simp [PyData.depth], by simp only [PyData.shown]; decide⟩
  | bool b => exact ⟨by simp [PyData.showable], by simp [PyData.depth], by cases b <;> (simp only [PyData.shown]; decide)⟩
  | int i =>
    have h1 : i.natAbs < 10 ^ 40 := of_decide_eq_true h
    have h2 : i.natAbs.log2 < 1920 := by
      by_cases z : i.natAbs = 0
      · rw [z]; decide
      · exact (Nat.log2_lt z).mpr (Nat.lt_trans h1 (by decide))
    refine ⟨by simp [PyData.showable, h2], by simp [PyData.depth], ?_⟩
    have := int_text_length_le10 (a := i) (k := 40) (by omega) h1
    simp only [PyData.shown]
    show (Str.ofString (toString i)).length ≤ 60
    rw [ofString_length]
    omega
  | str z => exact ⟨by simp [PyData.showable], by simp [PyData.depth], by
      have h1 : (reprText z).length ≤ 50 := of_decide_eq_true h
      simp only [PyData.shown]
      omega⟩
  | dict kvs =>
    have : kvs = [] := by simpa [atomOk] using h
    subst this
    exact ⟨by simp [PyData.showable, PyData.showableKv], by simp [PyData.depth, PyData.depthKv], by simp only [PyData.shown, PyData.shownKv]; decide⟩
  | list ds => cases h
  | tuple ds => cases h
theorem bnd_ge : ∀ k : Nat, 60 ≤ bnd k
  | 0 => Nat.le_refl _
  | k + 1 => by have := bnd_ge k; show 60 ≤ 4 + 12 * (bnd k + 2); omega
theorem RL_shown : ∀ (k : Nat) (x : PyData), RL k x = true → x.showable = true ∧ x.depth ≤ k + 1 ∧ x.shown.length ≤ bnd k
  | 0, x, h => by
    obtain ⟨h1, h2, h3⟩ := atom_shown h
    exact ⟨h1, h2, h3⟩
  | k + 1, x, h => by
    unfold RL at h
    rw [Bool.or_eq_true] at h
    rcases h with h | h
    · obtain ⟨h1, h2, h3⟩ := atom_shown h
      refine ⟨h1, by omega, ?_⟩
      show _ ≤ 4 + 12 * (bnd k + 2)
      have := bnd_ge k
      omega
    · have core : ∀ ds : List PyData, ds.length ≤ 12 → (∀ d ∈ ds, RL k d = true) → PyData.showableAll ds = true ∧ PyData.depthAll ds ≤ k + 1 ∧ (∀ t ∈ PyData.shownAll ds, t.length ≤ bnd k) := fun ds _ ha =>
        ⟨showableAll_of fun d hd => (RL_shown k d (ha d hd)).1, depthAll_le fun d hd => (RL_shown k d (ha d hd)).2.1, fun t ht => by
          obtain ⟨d, hd, rfl⟩ := shownAll_mem ht
          exact (RL_shown k d (ha d hd)).2.2⟩
      cases x with
      | list ds =>
        rw [Bool.and_eq_true, decide_eq_true_eq, List.all_eq_true] at h
        obtain ⟨c1, c2, c3⟩ := core ds h.1 h.2
        refine ⟨by simpa [PyData.showable] using c1, by simp only [PyData.depth]; omega, ?_⟩
        have := listText_le c3
        rw [shownAll_len] at this
        simp only [PyData.shown]
        show _ ≤ 4 + 12 * (bnd k + 2)
        have : ds.length * (bnd k + 2) ≤ 12 * (bnd k + 2) := Nat.mul_le_mul_right _ h.1
        omega
      | tuple ds =>
        rw [Bool.and_eq_true, decide_eq_true_eq, List.all_eq_true] at h
        obtain ⟨c1, c2, c3⟩ := core ds h.1 h.2
        refine ⟨by simpa [PyData.showable] using c1, by simp only [PyData.depth]; omega, ?_⟩
        have := tupleText_le c3
        rw [shownAll_len] at this
        simp only [PyData.shown]
        show _ ≤ 4 + 12 * (bnd k + 2)
        have : ds.length * (bnd k + 2) ≤ 12 * (bnd k + 2) := Nat.mul_le_mul_right _ h.1
        omega
      | _ => cases h
theorem RL_up : ∀ (k : Nat) (x : PyData), RL k x = true → RL (k + 1) x = true
  | 0, x, h => by unfold RL; rw [show atomOk x = true from h]; rfl
  | k + 1, x, h => by
    unfold RL at h ⊢
    rw [Bool.or_eq_true] at h ⊢
    refine h.imp id fun h => ?_
    cases x with
    | list ds =>
      rw [Bool.and_eq_true, List.all_eq_true] at h ⊢
      exact ⟨h.1, fun d hd => RL_up k d (h.2 d hd)⟩
    | tuple ds =>
      rw [Bool.and_eq_true, List.all_eq_true] at h ⊢
      exact ⟨h.1, fun d hd => RL_up k d (h.2 d hd)⟩
    | _ => exact h
theorem RL_le {j k : Nat} {x : PyData} (h : RL j x = true) (e : j ≤ k) : RL k x = true := by
  induction e with
  | refl => exact h
  | step _ ih => exact RL_up _ _ ih
theorem RL_repr {x : PyData} (h : RL 4 x = true) : reprOk x = true := by
  obtain ⟨h1, h2, h3⟩ := RL_shown 4 x h
  have h4 : x.shown.length ≤ sizeLine := by
    rw [sizeLine_eq]
    exact Nat.le_trans h3 (by decide)
  unfold reprOk
  rw [h1, decide_eq_true (show x.depth ≤ 60 by omega), decide_eq_true h4]
  rfl
end DL
namespace Lk56
open PySem L2 DL
def topS (i : Nat) : Stmt := PySem.Challenge.pw_littleorders_k56_parts_judged.main.body.getD i (.Pass ⟨0, 0, 0, 0⟩)
abbrev s_is_whole : Stmt := topS 1
abbrev N_is_whole : List Str := ["value"]
theorem sc_is_whole : FnScope N_is_whole ["value"] (defScope s_is_whole) := ⟨rfl, rfl, rfl, by decide +kernel, rfl, by decide +kernel, by decide +kernel⟩
abbrev s_is_order : Stmt := topS 2
abbrev N_is_order : List Str := ["value", "height"]
theorem sc_is_order : FnScope N_is_order ["value"] (defScope s_is_order) := ⟨rfl, rfl, rfl, by decide +kernel, rfl, by decide +kernel, by decide +kernel⟩
abbrev s_order_at : Stmt := topS 3
abbrev N_order_at : List Str := ["order", "places", "heights", "place", "low", "height"]
theorem sc_order_at : FnScope N_order_at ["order", "places"] (defScope s_order_at) := ⟨rfl, rfl, rfl, by decide +kernel, rfl, by decide +kernel, by decide +kernel⟩
abbrev s_put_behind : Stmt := topS 5
abbrev N_put_behind : List Str := ["s", "t", "height"]
theorem sc_put_behind : FnScope N_put_behind ["s", "t"] (defScope s_put_behind) := ⟨rfl, rfl, rfl, by decide +kernel, rfl, by decide +kernel, by decide +kernel⟩
abbrev s_put_all : Stmt := topS 6
abbrev N_put_all : List Str := ["orders", "found", "order"]
theorem sc_put_all : FnScope N_put_all ["orders"] (defScope s_put_all) := ⟨rfl, rfl, rfl, by decide +kernel, rfl, by decide +kernel, by decide +kernel⟩
abbrev s_cuts_of : Stmt := topS 7
abbrev N_cuts_of : List Str := ["order", "i", "height"]
theorem sc_cuts_of : FnScope N_cuts_of ["order"] (defScope s_cuts_of) := ⟨rfl, rfl, rfl, by decide +kernel, rfl, by decide +kernel, by decide +kernel⟩
abbrev s_parts_of : Stmt := topS 8
abbrev N_parts_of : List Str := ["order", "cuts", "i", "j"]
theorem sc_parts_of : FnScope N_parts_of ["order"] (defScope s_parts_of) := ⟨rfl, rfl, rfl, by decide +kernel, rfl, by decide +kernel, by decide +kernel⟩
abbrev s_is_unbreakable : Stmt := topS 9
abbrev N_is_unbreakable : List Str := ["order"]
theorem sc_is_unbreakable : FnScope N_is_unbreakable ["order"] (defScope s_is_unbreakable) := ⟨rfl, rfl, rfl, by decide +kernel, rfl, by decide +kernel, by decide +kernel⟩
abbrev s_judge_parts : Stmt := topS 11
abbrev N_judge_parts : List Str := ["order", "value", "part", "wrong", "i", "made"]
theorem sc_judge_parts : FnScope N_judge_parts ["order", "value"] (defScope s_judge_parts) := ⟨rfl, rfl, rfl, by decide +kernel, rfl, by decide +kernel, by decide +kernel⟩
abbrev s__law_source : Stmt := topS 13
abbrev N__law_source : List Str := ["script", "mixed", "cell"]
theorem sc__law_source : FnScope N__law_source ["script"] (defScope s__law_source) := ⟨rfl, rfl, rfl, by decide +kernel, rfl, by decide +kernel, by decide +kernel⟩
abbrev s__law_pick : Stmt := topS 14
abbrev N__law_pick : List Str := ["source", "many", "left", "mixed"]
theorem sc__law_pick : FnScope N__law_pick ["source", "many"] (defScope s__law_pick) := ⟨rfl, rfl, rfl, by decide +kernel, rfl, by decide +kernel, by decide +kernel⟩
abbrev s__law_of : Stmt := topS 15
abbrev N__law_of : List Str := ["source", "some"]
theorem sc__law_of : FnScope N__law_of ["source", "some"] (defScope s__law_of) := ⟨rfl, rfl, rfl, by decide +kernel, rfl, by decide +kernel, by decide +kernel⟩
abbrev s__law_mixed : Stmt := topS 16
abbrev N__law_mixed : List Str := ["source", "things", "rest", "turn"]
theorem sc__law_mixed : FnScope N__law_mixed ["source", "things"] (defScope s__law_mixed) := ⟨rfl, rfl, rfl, by decide +kernel, rfl, by decide +kernel, by decide +kernel⟩
abbrev s__law_order : Stmt := topS 17
abbrev N__law_order : List Str := ["source", "n"]
theorem sc__law_order : FnScope N__law_order ["source", "n"] (defScope s__law_order) := ⟨rfl, rfl, rfl, by decide +kernel, rfl, by decide +kernel, by decide +kernel⟩
abbrev s__law_bent : Stmt := topS 18
abbrev N__law_bent : List Str := ["source", "value", "odd", "k", "way"]
theorem sc__law_bent : FnScope N__law_bent ["source", "value", "odd"] (defScope s__law_bent) := ⟨rfl, rfl, rfl, by decide +kernel, rfl, by decide +kernel, by decide +kernel⟩
abbrev s__law_is_order : Stmt := topS 19
abbrev N__law_is_order : List Str := ["value", "i"]
theorem sc__law_is_order : FnScope N__law_is_order ["value"] (defScope s__law_is_order) := ⟨rfl, rfl, rfl, by decide +kernel, rfl, by decide +kernel, by decide +kernel⟩
abbrev s__law_fault : Stmt := topS 20
abbrev N__law_fault : List Str := ["order", "value", "part", "i", "k", "made", "height"]
theorem sc__law_fault : FnScope N__law_fault ["order", "value"] (defScope s__law_fault) := ⟨rfl, rfl, rfl, by decide +kernel, rfl, by decide +kernel, by decide +kernel⟩
abbrev s_law : Stmt := topS 21
abbrev N_law : List Str := ["script", "source", "odd", "lap", "some", "turn", "order", "one", "height", "told", "values", "part", "value", "look", "shown", "fault"]
theorem sc_law : FnScope N_law ["script"] (defScope s_law) := ⟨rfl, rfl, rfl, by decide +kernel, rfl, by decide +kernel, by decide +kernel⟩
def bd_is_whole : M Fl :=
  (mRet (mAndV (mIsi "int" (mVarB 0)) (mNotV (mIsi "bool" (mVarB 0)))))
def fm_is_whole : FM := bodyRun 1 bd_is_whole
def rg_is_order_1 : M EV :=
  mRgL (fun ds => .fr (.list ds)) (mRg1 (M.bind (mCallB pyLen (mCons (mVarB 0) mNil)) mFrz))
def cp_is_order_1 : M EV :=
  mComp (.nm 1) [1] (M.bind (M.bind (mVar 0) mFrz) mItems) mYes (M.bind (mCall 1 fm_is_whole (mCons (mArg (mVar 1)) mNil)) mFrz)
def bd_is_order : M Fl :=
  (mSeqS (mIfS (mOrT (mNotT (M.bind (mIsi "tuple" (mVarB 0)) mBool)) (mNotT (M.bind (mCallB pyAll (mCons cp_is_order_1 mNil)) mBool))) (mRet (mK (.bool false))) mNx)
    (mRet (mBin pyEq (mCallB pySorted (mCons (mVarB 0) mNil)) rg_is_order_1)))
def fm_is_order : FM := bodyRun 2 bd_is_order
def cp_order_at_1 : M EV :=
  mComp (.nm 5) [5] (M.bind (M.bind (mVar 2) mFrz) mItems) mYes (M.bind (mIdx (mVarB 4) (mVarB 5)) mFrz)
def cp_order_at_2 : M EV :=
  mComp (.nm 3) [3] (M.bind (M.bind (mVar 1) mFrz) mItems) mYes (M.bind (mBin pyIx (mVarB 0) (mVarB 3)) mFrz)
def bd_order_at : M Fl :=
  (mSeqS (mSet 2 (mArg cp_order_at_2))
    (mSeqS (mSet 4 (mArg (mCallB pySorted (mCons (mVarB 2) mNil))))
    (mRet (mCallB pyTupOf (mCons cp_order_at_1 mNil)))))
def fm_order_at : FM := bodyRun 6 bd_order_at
def cp_put_behind_1 : M EV :=
  mComp (.nm 2) [2] (M.bind (M.bind (mVar 1) mFrz) mItems) mYes (M.bind (mBin pyAdd (mCallB pyLen (mCons (mVarB 0) mNil)) (mVarB 2)) mFrz)
def bd_put_behind : M Fl :=
  (mRet (mBin pyAdd (mVarB 0) (mCallB pyTupOf (mCons cp_put_behind_1 mNil))))
def fm_put_behind : FM := bodyRun 3 bd_put_behind
def lb_put_all_1 : M Fl :=
  (mSet 1 (mArg (mCall 2 fm_put_behind (mCons (mArg (mVar 1)) (mCons (mArg (mVar 2)) mNil)))))
def lp_put_all_1 : M Fl :=
  mFor (.nm 2) (M.bind (M.bind (mVar 0) mFrz) mItems) lb_put_all_1
def bd_put_all : M Fl :=
  (mSeqS (mSet 1 (mDisp (fun ds => .d (.tuple ds)) mNil))
    (mSeqS lp_put_all_1
    (mRetV 1)))
def fm_put_all : FM := bodyRun 3 bd_put_all
def cp_cuts_of_1 : M EV :=
  mComp (.nm 2) [2] (M.bind (M.bind (mSl (mVarB 0) (M.pure none) (M.bind (M.bind (mVar 1) mFrz) mPart)) mFrz) mItems) mYes (M.bind (mBin (pyCmpI fun i j => decide (i < j)) (mVarB 2) (mVarB 1)) mFrz)
def cp_cuts_of_2 : M EV :=
  mComp (.nm 1) [1] (M.bind (mCons (mBin pyAdd (mCallB pyLen (mCons (mVarB 0) mNil)) (mK (.int 1))) mNil) mRange1) (M.bind (mCallB pyAll (mCons cp_cuts_of_1 mNil)) mBool) (M.bind (mVar 1) mFrz)
def bd_cuts_of : M Fl :=
  (mRet cp_cuts_of_2)
def fm_cuts_of : FM := bodyRun 3 bd_cuts_of
def rg_parts_of_1 : M EV :=
  mRgL (fun ds => .d (.tuple ds)) (mRg2 (M.bind (mVar 2) mFrz) (M.bind (mVar 3) mFrz))
def cp_parts_of_1 : M EV :=
  mComp (.tp [(.nm 2), (.nm 3)]) [2, 3] (M.bind (mCons (mArg (mVar 1)) (mCons (mArg (mSl (mVarB 1) (M.bind (M.bind (mK (.int 1)) mFrz) mPart) (M.pure none))) mNil)) mZip) mYes (M.bind (mCall 2 fm_order_at (mCons (mArg (mVar 0)) (mCons (mArg rg_parts_of_1) mNil))) mFrz)
def bd_parts_of : M Fl :=
  (mSeqS (mSet 1 (mArg (mCall 1 fm_cuts_of (mCons (mArg (mVar 0)) mNil))))
    (mRet (mCallB pyTupOf (mCons cp_parts_of_1 mNil))))
def fm_parts_of : FM := bodyRun 4 bd_parts_of
def bd_is_unbreakable : M Fl :=
  (mRet (mBin pyEq (mCallB pyLen (mCons (mCall 1 fm_parts_of (mCons (mArg (mVar 0)) mNil)) mNil)) (mK (.int 1))))
def fm_is_unbreakable : FM := bodyRun 1 bd_is_unbreakable
def cp_judge_parts_1 : M EV :=
  mComp (.tp [(.nm 4), (.nm 2)]) [4, 2] (M.bind (mCons (mArg (mVar 1)) mNil) mEnum) (mNotT (M.bind (mCall 1 fm_is_unbreakable (mCons (mArg (mVar 2)) mNil)) mBool)) (M.bind (mVar 4) mFrz)
def cp_judge_parts_2 : M EV :=
  mComp (.nm 2) [2] (M.bind (M.bind (mVar 1) mFrz) mItems) mYes (M.bind (mCall 1 fm_is_order (mCons (mArg (mVar 2)) mNil)) mFrz)
def bd_judge_parts : M Fl :=
  (mSeqS (mIfS (mOrT (mNotT (M.bind (mIsi "tuple" (mVarB 1)) mBool)) (mNotT (M.bind (mCallB pyAll (mCons cp_judge_parts_2 mNil)) mBool))) (mRet (mDisp (fun ds => .d (.tuple ds)) (mCons (mArg (mK (.str "form"))) mNil))) mNx)
    (mSeqS (mSet 3 (mArg cp_judge_parts_1))
    (mSeqS (mIfS (M.bind (mBin pyNe (mVarB 3) (mDisp (fun ds => .fr (.list ds)) mNil)) mBool) (mRet (mDisp (fun ds => .d (.tuple ds)) (mCons (mArg (mK (.str "breaks"))) (mCons (mArg (mBin pyIx (mVarB 3) (mK (.int 0)))) mNil)))) mNx)
    (mSeqS (mSet 5 (mArg (mCall 1 fm_put_all (mCons (mArg (mVar 1)) mNil))))
    (mRet (mIf (M.bind (mBin pyNe (mVarB 5) (mVarB 0)) mBool) (mDisp (fun ds => .d (.tuple ds)) (mCons (mArg (mK (.str "made"))) (mCons (mArg (mVar 5)) mNil))) (mK .none)))))))
def fm_judge_parts : FM := bodyRun 6 bd_judge_parts
def cp__law_source_1 : M EV :=
  mComp (.nm 2) [2] (mScrItems (mVarB 0)) mYes (M.bind (mCallB pyAbs (mCons (mVarB 2) mNil)) mFrz)
def lb__law_source_1 : M Fl :=
  (mSet 1 (mBin pyMod (mCallB pyInt (mCons (mBin pyAdd (mBin pyAdd (mBin pyMul (mVarB 1) (mK (.int 69069))) (mBin pyMul (mVarB 2) (mK (.int 31)))) (mK (.int 5))) mNil)) (mK (.int 2147483629))))
def lp__law_source_1 : M Fl :=
  mFor (.nm 2) (mScrItems (mVarB 0)) lb__law_source_1
def bd__law_source : M Fl :=
  (mSeqS (mSet 1 (mK (.int 11)))
    (mSeqS lp__law_source_1
    (mRet (mSrcNew (mUn pyRev cp__law_source_1) (mK (.int 1)) (mVar 1) (mK (.int 0))))))
def fm__law_source : FM := bodyRun 3 bd__law_source
abbrev fuel__law_pick : Nat := 1000
def wh__law_pick_1 : M Fl :=
  whileD (mAndT (M.bind (mBin (pyCmpI fun i j => decide (j < i)) (mVarB 1) (mK (.int 1))) mBool) (mAndT (M.bind (mBin (pyCmpI fun i j => decide (i < j)) (mSrcGet "left" (mVarB 0)) (mK (.int 2))) mBool) (M.bind (mBin (pyCmpI fun i j => decide (j < i)) (mSrcLen (mSrcGet "cells" (mVarB 0))) (mK (.int 0))) mBool))) (mSrcPut "left" (mSrcPop (mSrcGet "cells" (mVarB 0))) (mVarB 0)) fuel__law_pick
def bd__law_pick : M Fl :=
  (mSeqS wh__law_pick_1
    (mSeqS (mSet 2 (mSrcGet "left" (mVarB 0)))
    (mSeqS (mIfS (mOrT (M.bind (mBin (pyCmpI fun i j => decide (i < j)) (mVarB 1) (mK (.int 2))) mBool) (M.bind (mBin (pyCmpI fun i j => decide (j < i)) (mVarB 2) (mK (.int 1))) mBool)) (mSeqS (mSrcPut "left" (mBin pyFloorDiv (mVarB 2) (mCallB pyMax2 (mCons (mK (.int 1)) (mCons (mVarB 1) mNil)))) (mVarB 0))
    (mRet (mBin pyMod (mCallB pyInt (mCons (mVarB 2) mNil)) (mCallB pyMax2 (mCons (mK (.int 1)) (mCons (mVarB 1) mNil)))))) mNx)
    (mSeqS (mSrcPut "turn" (mBin pyAdd (mSrcGet "turn" (mVarB 0)) (mK (.int 1))) (mVarB 0))
    (mSeqS (mSet 3 (mBin pyMod (mCallB pyInt (mCons (mBin pyAdd (mSrcGet "mixed" (mVarB 0)) (mBin pyMul (mSrcGet "turn" (mVarB 0)) (mK (.int 104729)))) mNil)) (mK (.int 998244353))))
    (mSeqS (mSet 3 (mBin pyMod (mCallB pyInt (mCons (mBin pyAdd (mBin pyMul (mVarB 3) (mVarB 3)) (mBin pyMul (mSrcGet "turn" (mVarB 0)) (mK (.int 17)))) mNil)) (mK (.int 2147483647))))
    (mSeqS (mSrcPut "mixed" (mVarB 3) (mVarB 0))
    (mRet (mBin pyMod (mCallB pyInt (mCons (mBin pyFloorDiv (mVarB 3) (mK (.int 16))) mNil)) (mVarB 1))))))))))
def fm__law_pick : FM := bodyRun 4 bd__law_pick
def bd__law_of : M Fl :=
  (mRet (mBin pyIx (mVarB 1) (mCall 2 fm__law_pick (mCons (mArg (mVar 0)) (mCons (mArg (mCallB pyLen (mCons (mVarB 1) mNil))) mNil)))))
def fm__law_of : FM := bodyRun 2 bd__law_of
def cp__law_mixed_1 : M EV :=
  mComp (.nm 3) [3] (M.bind (mCons (mCallB pyLen (mCons (mVarB 2) mNil)) mNil) mRange1) mYes (M.bind (mOn 2 (mPopAt 2 (M.bind (mCall 2 fm__law_pick (mCons (mArg (mVar 0)) (mCons (mArg (mCallB pyLen (mCons (mVarB 2) mNil))) mNil))) mFrz))) mFrz)
def bd__law_mixed : M Fl :=
  (mSeqS (mSet 2 (mCallB pyListOf (mCons (mVarB 1) mNil)))
    (mRet cp__law_mixed_1))
def fm__law_mixed : FM := bodyRun 4 bd__law_mixed
def rg__law_order_1 : M EV :=
  mRgL (fun ds => .fr (.list ds)) (mRg1 (M.bind (mVar 1) mFrz))
def bd__law_order : M Fl :=
  (mRet (mCallB pyTupOf (mCons (mCall 2 fm__law_mixed (mCons (mArg (mVar 0)) (mCons (mArg rg__law_order_1) mNil))) mNil)))
def fm__law_order : FM := bodyRun 2 bd__law_order
def bd__law_bent (self : FM) : M Fl :=
  (mSeqS (mIfS (mAndT (M.bind (mIsi "int" (mVarB 1)) mBool) (mAndT (mNotT (M.bind (mIsi "bool" (mVarB 1)) mBool)) (M.bind (mBin (pyCmpI fun i j => decide (j < i)) (mCall 2 fm__law_pick (mCons (mArg (mVar 0)) (mCons (mArg (mK (.int 3))) mNil))) (mK (.int 0))) mBool))) (mRet (mBin pyAdd (mVarB 1) (mCall 2 fm__law_of (mCons (mArg (mVar 0)) (mCons (mArg (mDisp (fun ds => .fr (.list ds)) (mCons (mArg (mK (.int 1))) (mCons (mArg (mUn pyNeg (mK (.int 1)))) (mCons (mArg (mK (.int 2))) mNil))))) mNil))))) mNx)
    (mSeqS (mIfS (mOrT (mNotT (M.bind (mIsi "tuple" (mVarB 1)) mBool)) (mOrT (M.bind (mBin pyEq (mVarB 1) (mDisp (fun ds => .d (.tuple ds)) mNil)) mBool) (M.bind (mBin pyEq (mCall 2 fm__law_pick (mCons (mArg (mVar 0)) (mCons (mArg (mK (.int 7))) mNil))) (mK (.int 0))) mBool))) (mRet (mCall 2 fm__law_of (mCons (mArg (mVar 0)) (mCons (mArg (mVar 2)) mNil)))) mNx)
    (mSeqS (mPar 3 4 (mCons (mArg (mCall 2 fm__law_pick (mCons (mArg (mVar 0)) (mCons (mArg (mCallB pyLen (mCons (mVarB 1) mNil))) mNil)))) (mCons (mArg (mCall 2 fm__law_pick (mCons (mArg (mVar 0)) (mCons (mArg (mK (.int 8))) mNil)))) mNil)))
    (mSeqS (mIfS (M.bind (mBin (pyCmpI fun i j => decide (i < j)) (mVarB 4) (mK (.int 5))) mBool) (mRet (mBin pyAdd (mBin pyAdd (mSl (mVarB 1) (M.pure none) (M.bind (M.bind (mVar 3) mFrz) mPart)) (mDisp (fun ds => .d (.tuple ds)) (mCons (mArg (mCall 3 self (mCons (mArg (mVar 0)) (mCons (mArg (mBin pyIx (mVarB 1) (mVarB 3))) (mCons (mArg (mVar 2)) mNil))))) mNil))) (mSl (mVarB 1) (M.bind (M.bind (mBin pyAdd (mVarB 3) (mK (.int 1))) mFrz) mPart) (M.pure none)))) mNx)
    (mRet (mCall 2 fm__law_of (mCons (mArg (mVar 0)) (mCons (mArg (mDisp (fun ds => .fr (.list ds)) (mCons (mArg (mBin pyAdd (mSl (mVarB 1) (M.pure none) (M.bind (M.bind (mVar 3) mFrz) mPart)) (mSl (mVarB 1) (M.bind (M.bind (mBin pyAdd (mVarB 3) (mK (.int 1))) mFrz) mPart) (M.pure none)))) (mCons (mArg (mBin pyAdd (mSl (mVarB 1) (M.pure none) (M.bind (M.bind (mBin pyAdd (mVarB 3) (mK (.int 1))) mFrz) mPart)) (mSl (mVarB 1) (M.bind (M.bind (mVar 3) mFrz) mPart) (M.pure none)))) (mCons (mArg (mUn pyRev (mVarB 1))) (mCons (mArg (mCallB pyListOf (mCons (mVarB 1) mNil))) mNil)))))) mNil))))))))
def fm__law_bent' : Nat → FM
  | 0 => fun _ _ => .bad
  | n + 1 => bodyRun 5 (bd__law_bent (fm__law_bent' n))
abbrev fm__law_bent : FM := fm__law_bent' 8
def rg__law_is_order_1 : M EV :=
  mRgL (fun ds => .fr (.list ds)) (mRg1 (M.bind (mCallB pyLen (mCons (mVarB 0) mNil)) mFrz))
def cp__law_is_order_1 : M EV :=
  mComp (.nm 1) [1] (M.bind (M.bind (mVar 0) mFrz) mItems) (mOrT (mNotT (M.bind (mIsi "int" (mVarB 1)) mBool)) (M.bind (mIsi "bool" (mVarB 1)) mBool)) (M.bind (mVar 1) mFrz)
def bd__law_is_order : M Fl :=
  (mSeqS (mIfS (mOrT (mNotT (M.bind (mIsi "tuple" (mVarB 0)) mBool)) (M.bind (mBin pyNe cp__law_is_order_1 (mDisp (fun ds => .fr (.list ds)) mNil)) mBool)) (mRet (mK (.bool false))) mNx)
    (mRet (mBin pyEq (mCallB pySorted (mCons (mVarB 0) mNil)) rg__law_is_order_1)))
def fm__law_is_order : FM := bodyRun 2 bd__law_is_order
def cp__law_fault_1 : M EV :=
  mComp (.nm 6) [6] (M.bind (M.bind (mVar 2) mFrz) mItems) mYes (M.bind (mBin pyAdd (mVarB 6) (mCallB pyLen (mCons (mVarB 5) mNil))) mFrz)
def lb__law_fault_1 : M Fl :=
  (mSet 5 (mArg (mBin pyAdd (mVarB 5) (mCallB pyTupOf (mCons cp__law_fault_1 mNil)))))
def lp__law_fault_1 : M Fl :=
  mFor (.nm 2) (M.bind (M.bind (mVar 1) mFrz) mItems) lb__law_fault_1
def rg__law_fault_1 : M EV :=
  mRgL (fun ds => .fr (.list ds)) (mRg1 (M.bind (mVar 4) mFrz))
def cp__law_fault_2 : M EV :=
  mComp (.nm 4) [4] (M.bind (mCons (mBin pyAdd (mCallB pyLen (mCons (mVarB 2) mNil)) (mK (.int 1))) mNil) mRange1) (M.bind (mBin pyEq (mCallB pySorted (mCons (mSl (mVarB 2) (M.pure none) (M.bind (M.bind (mVar 4) mFrz) mPart)) mNil)) rg__law_fault_1) mBool) (M.bind (mVar 4) mFrz)
def lb__law_fault_2 : M Fl :=
  (mIfS (M.bind (mBin pyNe (mCallB pyLen (mCons cp__law_fault_2 mNil)) (mK (.int 2))) mBool) (mRet (mDisp (fun ds => .d (.tuple ds)) (mCons (mArg (mK (.str "breaks"))) (mCons (mArg (mVar 3)) mNil)))) mNx)
def lp__law_fault_2 : M Fl :=
  mFor (.tp [(.nm 3), (.nm 2)]) (M.bind (mCons (mArg (mVar 1)) mNil) mEnum) lb__law_fault_2
def cp__law_fault_3 : M EV :=
  mComp (.nm 2) [2] (M.bind (M.bind (mVar 1) mFrz) mItems) (mNotT (M.bind (mCall 1 fm__law_is_order (mCons (mArg (mVar 2)) mNil)) mBool)) (M.bind (mVar 2) mFrz)
def bd__law_fault : M Fl :=
  (mSeqS (mIfS (mOrT (mNotT (M.bind (mIsi "tuple" (mVarB 1)) mBool)) (M.bind (mBin pyNe cp__law_fault_3 (mDisp (fun ds => .fr (.list ds)) mNil)) mBool)) (mRet (mDisp (fun ds => .d (.tuple ds)) (mCons (mArg (mK (.str "form"))) mNil))) mNx)
    (mSeqS lp__law_fault_2
    (mSeqS (mSet 5 (mDisp (fun ds => .d (.tuple ds)) mNil))
    (mSeqS lp__law_fault_1
    (mRet (mIf (M.bind (mBin pyNe (mVarB 5) (mVarB 0)) mBool) (mDisp (fun ds => .d (.tuple ds)) (mCons (mArg (mK (.str "made"))) (mCons (mArg (mVar 5)) mNil))) (mK .none)))))))
def fm__law_fault : FM := bodyRun 7 bd__law_fault
def cp_law_1 : M EV :=
  mComp (.nm 13) [13] (M.bind (mCons (mK (.int 9)) mNil) mRange1) mYes (M.bind (mCall 3 fm__law_bent (mCons (mArg (mVar 1)) (mCons (mArg (mVar 9)) (mCons (mArg (mVar 2)) mNil)))) mFrz)
def lb_law_1 : M Fl :=
  (mSeqS (mPar 14 15 (mCons (mArg (mRepr (M.bind (mVar 12) mFrz))) (mCons (mArg (mCall 2 fm__law_fault (mCons (mArg (mVar 6)) (mCons (mArg (mVar 12)) mNil)))) mNil)))
    (mIfS (mOrT (M.bind (mBin pyNe (mRepr (M.bind (mCall 2 fm_judge_parts (mCons (mArg (mVar 6)) (mCons (mArg (mVar 12)) mNil))) mFrz)) (mRepr (M.bind (mVar 15) mFrz))) mBool) (M.bind (mBin pyNe (mRepr (M.bind (mVar 12) mFrz)) (mVarB 14)) mBool)) (mRet (mK (.bool false))) mNx))
def lp_law_1 : M Fl :=
  mFor (.nm 12) (M.bind (M.bind (mBin pyAdd (mBin pyAdd (mVarB 10) (mVarB 2)) cp_law_1) mFrz) mItems) lb_law_1
def cp_law_2 : M EV :=
  mComp (.nm 11) [11] (M.bind (M.bind (mVar 9) mFrz) mItems) mYes (M.bind (mCallB pyListOf (mCons (mVarB 11) mNil)) mFrz)
def cp_law_3 : M EV :=
  mComp (.nm 8) [8] (M.bind (M.bind (mVar 7) mFrz) mItems) mYes (M.bind (mBin pyAdd (mVarB 8) (mCallB pyLen (mCons (mVarB 6) mNil))) mFrz)
def lb_law_2 : M Fl :=
  (mSet 6 (mArg (mBin pyAdd (mVarB 6) (mCallB pyTupOf (mCons cp_law_3 mNil)))))
def lp_law_2 : M Fl :=
  mFor (.nm 7) (M.bind (M.bind (mVar 4) mFrz) mItems) lb_law_2
def cp_law_4 : M EV :=
  mComp (.nm 5) [5] (M.bind (mCons (mBin pyAdd (mK (.int 1)) (mCall 2 fm__law_pick (mCons (mArg (mVar 1)) (mCons (mArg (mK (.int 3))) mNil)))) mNil) mRange1) mYes (M.bind (mCall 2 fm__law_order (mCons (mArg (mVar 1)) (mCons (mArg (mCall 2 fm__law_pick (mCons (mArg (mVar 1)) (mCons (mArg (mK (.int 4))) mNil)))) mNil))) mFrz)
def lb_law_3 : M Fl :=
  (mSeqS (mSet 4 (mArg cp_law_4))
    (mSeqS (mSet 6 (mDisp (fun ds => .d (.tuple ds)) mNil))
    (mSeqS lp_law_2
    (mSeqS (mSet 9 (mArg (mCall 1 fm_parts_of (mCons (mArg (mVar 6)) mNil))))
    (mSeqS (mIfS (mOrT (M.bind (mBin (pyIs true) (mCall 2 fm_judge_parts (mCons (mArg (mVar 6)) (mCons (mArg (mVar 9)) mNil))) (mK .none)) mBool) (M.bind (mBin (pyIs true) (mCall 2 fm__law_fault (mCons (mArg (mVar 6)) (mCons (mArg (mVar 9)) mNil))) (mK .none)) mBool)) (mRet (mK (.bool false))) mNx)
    (mSeqS (mSet 10 (mArg (mDisp (fun ds => .fr (.list ds)) (mCons (mArg (mCallB pyListOf (mCons (mVarB 9) mNil))) (mCons (mArg (mSl (mVarB 9) (M.bind (M.bind (mK (.int 1)) mFrz) mPart) (M.pure none))) (mCons (mArg (mSl (mVarB 9) (M.pure none) (M.bind (M.bind (mUn pyNeg (mK (.int 1))) mFrz) mPart))) (mCons (mArg (mUn pyRev (mVarB 9))) (mCons (mArg (mBin pyAdd (mVarB 9) (mSl (mVarB 9) (M.pure none) (M.bind (M.bind (mK (.int 1)) mFrz) mPart)))) (mCons (mArg (mCallB pyTupOf (mCons (mVarB 4) mNil))) (mCons (mArg (mDisp (fun ds => .d (.tuple ds)) (mCons (mArg (mVar 6)) mNil))) (mCons (mArg (mDisp (fun ds => .d (.tuple ds)) mNil)) (mCons (mArg (mK .none)) (mCons (mArg (mVar 6)) mNil)))))))))))))
    (mSeqS (mSet 10 (mArg (mBin pyAdd (mVarB 10) (mDisp (fun ds => .fr (.list ds)) (mCons (mArg (mBin pyAdd (mVarB 9) (mDisp (fun ds => .d (.tuple ds)) (mCons (mArg (mDisp (fun ds => .d (.tuple ds)) mNil)) mNil)))) (mCons (mArg (mCallB pyTupOf (mCons (mCall 2 fm__law_mixed (mCons (mArg (mVar 1)) (mCons (mArg (mCallB pyListOf (mCons (mVarB 9) mNil))) mNil))) mNil))) (mCons (mArg (mCallB pyTupOf (mCons cp_law_2 mNil))) mNil)))))))
    lp_law_1)))))))
def lp_law_3 : M Fl :=
  mFor (.nm 3) (M.bind (mCons (mK (.int 4)) mNil) mRange1) lb_law_3
def bd_law : M Fl :=
  (mSeqS (mSet 1 (mArg (mCall 1 fm__law_source (mCons (mArg (mVar 0)) mNil))))
    (mSeqS (mSet 2 (mArg (mDisp (fun ds => .fr (.list ds)) (mCons (mArg (mK .none)) (mCons (mArg (mK (.bool true))) (mCons (mArg (mK (.int 0))) (mCons (mArg (mK (.int 1))) (mCons (mArg (mUn pyNeg (mK (.int 1)))) (mCons (mArg (mK (.str "x"))) (mCons (mArg (mDisp (fun ds => .d (.tuple ds)) mNil)) (mCons (mArg (mDisp (fun ds => .d (.tuple ds)) (mCons (mArg (mK (.int 0))) mNil))) (mCons (mArg (mDisp (fun ds => .d (.tuple ds)) (mCons (mArg (mK (.int 0))) (mCons (mArg (mK (.int 1))) mNil)))) (mCons (mArg (mDisp (fun ds => .d (.tuple ds)) (mCons (mArg (mK (.int 1))) (mCons (mArg (mK (.int 0))) mNil)))) (mCons (mArg (mDisp (fun ds => .d (.tuple ds)) (mCons (mArg (mDisp (fun ds => .d (.tuple ds)) (mCons (mArg (mK (.int 0))) mNil))) mNil))) (mCons (mArg (mDisp (fun ds => .d (.tuple ds)) (mCons (mArg (mDisp (fun ds => .d (.tuple ds)) (mCons (mArg (mK (.int 1))) (mCons (mArg (mK (.int 0))) mNil)))) mNil))) (mCons (mArg (mDisp (fun ds => .d (.tuple ds)) (mCons (mArg (mDisp (fun ds => .d (.tuple ds)) (mCons (mArg (mK (.int 0))) (mCons (mArg (mK (.int 0))) mNil)))) mNil))) (mCons (mArg (mDisp (fun ds => .fr (.list ds)) mNil)) (mCons (mArg (M.pure (.fr (.dict [])))) (mCons (mArg (mBin pyPow (mK (.int 10)) (mK (.int 20)))) mNil)))))))))))))))))))
    (mSeqS lp_law_3
    (mRet (mBin pyEq (mCall 2 fm_judge_parts (mCons (mArg (mDisp (fun ds => .d (.tuple ds)) (mCons (mArg (mK (.int 1))) (mCons (mArg (mK (.int 0))) (mCons (mArg (mK (.int 2))) mNil))))) (mCons (mArg (mDisp (fun ds => .d (.tuple ds)) (mCons (mArg (mDisp (fun ds => .d (.tuple ds)) (mCons (mArg (mK (.int 0))) mNil))) (mCons (mArg (mDisp (fun ds => .d (.tuple ds)) (mCons (mArg (mK (.int 1))) (mCons (mArg (mK (.int 0))) mNil)))) mNil)))) mNil))) (mDisp (fun ds => .d (.tuple ds)) (mCons (mArg (mK (.str "made"))) (mCons (mArg (mDisp (fun ds => .d (.tuple ds)) (mCons (mArg (mK (.int 0))) (mCons (mArg (mK (.int 2))) (mCons (mArg (mK (.int 1))) mNil))))) mNil))))))))
def fm_law : FM := bodyRun 16 bd_law
structure Zs (mg : Str → Option Value) : Prop where
  abs : mg "abs" = none
  all : mg "all" = none
  bool : mg "bool" = none
  enumerate : mg "enumerate" = none
  int : mg "int" = none
  isinstance : mg "isinstance" = none
  len : mg "len" = none
  list : mg "list" = none
  max : mg "max" = none
  range : mg "range" = none
  repr : mg "repr" = none
  sorted : mg "sorted" = none
  tuple : mg "tuple" = none
  zip : mg "zip" = none
section
variable {P : Program} {w : World} {K : PySem.W.Frag} {mg : Str → Option Value} {base : Heap}
theorem ok_is_whole (z : Zs mg) (y : SysAt base) {f : Addr} {fd : FuncData} (Fu : Fun K "is_whole" "is_whole" s_is_whole f fd)  : FnD P w K mg base 1 f fd ["value"] fm_is_whole := by
  refine fnd_ok (N := N_is_whole) (k := 0) Fu sc_is_whole fun cdv A outer s H F l hr hg => ?_
  have hu := units_of hr
  exact (dss_one (ds_ret (de_and (de_isi isi_int (by rfl) z.isinstance (by rfl) z.int bt_int (vB 0)) (de_one (de_not (de_isi isi_bool (by rfl) z.isinstance (by rfl) z.bool bt_bool (vB 0)))))))
theorem ok_is_order (z : Zs mg) (y : SysAt base) {f : Addr} {fd : FuncData} (Fu : Fun K "is_order" "is_order" s_is_order f fd) (c_is_whole : Cal P w K mg base 1 "is_whole" ["value"] fm_is_whole) : FnD P w K mg base 2 f fd ["value"] fm_is_order := by
  refine fnd_ok (N := N_is_order) (k := 1) Fu sc_is_order fun cdv A outer s H F l hr hg => ?_
  have hu := units_of hr
  exact (dss_cons (ds_if (DW.dt (dw_or (dt_not (dt_val (de_isi isi_tuple (by rfl) z.isinstance (by rfl) z.tuple bt_tuple (vB 0)))) (dw_or1 (dt_not (dt_val (de_callB (calld_all rfl) (by rfl) z.all bt_all (da_cons (de_comp (own := [("height", 1)]) rfl sc_is_order.nd (di_seq (dd_of (vV 0))) (blkOk_by (N := N_is_order) (sc := (defScope s_is_order)) (own := [("height", 1)]) (by decide +kernel)) (fun _ _ _ _ _ => (gN 1 sc_is_order.nd)) (fun _ _ _ _ _ => dts_nil) (fun _ _ _ _ _ => (dd_of (cC c_is_whole hr hg (da_cons (de_arg (vV 1)) da_nil)))) rfl) da_nil))))))) (dss_one (ds_ret de_bool)) dss_nil)
    (dss_one (ds_ret (de_cmp (opd_eq (hu64 hu)) (de_callB (calld_sorted (hu64 hu)) (by rfl) z.sorted bt_sorted (da_cons (vB 0) da_nil)) (de_listRg rfl (by rfl) z.list (dr_1 (by rfl) z.range (dd_of (de_callB calld_len (by rfl) z.len bt_len (da_cons (vB 0) da_nil))))) (nomark _)))))
theorem ok_order_at (z : Zs mg) (y : SysAt base) {f : Addr} {fd : FuncData} (Fu : Fun K "order_at" "order_at" s_order_at f fd)  : FnD P w K mg base 1 f fd ["order", "places"] fm_order_at := by
  refine fnd_ok (N := N_order_at) (k := 0) Fu sc_order_at fun cdv A outer s H F l hr hg => ?_
  have hu := units_of hr
  exact (dss_cons (ds_setCF (i := 2) (own := [("place", 3)]) rfl sc_order_at.nd rfl rfl (by rfl) (di_seq (dd_of (vV 1))) (blkOk_by (N := N_order_at) (sc := (defScope s_order_at)) (own := [("place", 3)]) (by decide +kernel)) (fun _ _ _ _ _ => (gN 3 sc_order_at.nd)) (fun _ _ _ _ _ => dts_nil) (fun _ _ _ _ _ => (dd_of (de_ix (vB 0) (vB 3)))) rfl)
    (dss_cons (sSet 4 sc_order_at.nd (de_arg (de_callB (calld_sorted (hu64 hu)) (by rfl) z.sorted bt_sorted (da_cons (vB 2) da_nil))))
    (dss_one (ds_ret (de_callTy calld_tuple (by rfl) z.tuple bt_tuple (da_cons (de_comp (own := [("height", 5)]) rfl sc_order_at.nd (di_seq (dd_of (vV 2))) (blkOk_by (N := N_order_at) (sc := (defScope s_order_at)) (own := [("height", 5)]) (by decide +kernel)) (fun _ _ _ _ _ => (gN 5 sc_order_at.nd)) (fun _ _ _ _ _ => dts_nil) (fun _ _ _ _ _ => (dd_of (de_index hu (vB 4) (vB 5)))) rfl) da_nil))))))
theorem ok_put_behind (z : Zs mg) (y : SysAt base) {f : Addr} {fd : FuncData} (Fu : Fun K "put_behind" "put_behind" s_put_behind f fd)  : FnD P w K mg base 1 f fd ["s", "t"] fm_put_behind := by
  refine fnd_ok (N := N_put_behind) (k := 0) Fu sc_put_behind fun cdv A outer s H F l hr hg => ?_
  have hu := units_of hr
  exact (dss_one (ds_ret (de_bin opd_add (vB 0) (de_callTy calld_tuple (by rfl) z.tuple bt_tuple (da_cons (de_comp (own := [("height", 2)]) rfl sc_put_behind.nd (di_seq (dd_of (vV 1))) (blkOk_by (N := N_put_behind) (sc := (defScope s_put_behind)) (own := [("height", 2)]) (by decide +kernel)) (fun _ _ _ _ _ => (gN 2 sc_put_behind.nd)) (fun _ _ _ _ _ => dts_nil) (fun _ _ _ _ _ => (dd_of (de_bin opd_add (de_callB calld_len (by rfl) z.len bt_len (da_cons (vB 0) da_nil)) (vB 2)))) rfl) da_nil)))))
theorem ok_put_all (z : Zs mg) (y : SysAt base) {f : Addr} {fd : FuncData} (Fu : Fun K "put_all" "put_all" s_put_all f fd) (c_put_behind : Cal P w K mg base 1 "put_behind" ["s", "t"] fm_put_behind) : FnD P w K mg base 2 f fd ["orders"] fm_put_all := by
  refine fnd_ok (N := N_put_all) (k := 1) Fu sc_put_all fun cdv A outer s H F l hr hg => ?_
  have hu := units_of hr
  exact (dss_cons (sSet 1 sc_put_all.nd (de_tup da_nil))
    (dss_cons (ds_for PassesOwn.never rfl (di_seq (dd_of (vV 0))) (gN 2 sc_put_all.nd) (dss_one (sSet 1 sc_put_all.nd (de_arg (cC c_put_behind hr hg (da_cons (de_arg (vV 1)) (da_cons (de_arg (vV 2)) da_nil)))))))
    (dss_one (ds_retV (pv 1)))))
theorem ok_cuts_of (z : Zs mg) (y : SysAt base) {f : Addr} {fd : FuncData} (Fu : Fun K "cuts_of" "cuts_of" s_cuts_of f fd)  : FnD P w K mg base 1 f fd ["order"] fm_cuts_of := by
  refine fnd_ok (N := N_cuts_of) (k := 0) Fu sc_cuts_of fun cdv A outer s H F l hr hg => ?_
  have hu := units_of hr
  exact (dss_one (ds_ret (de_comp (own := [("i", 1)]) rfl sc_cuts_of.nd (di_range1 (by rfl) z.range (da_cons (de_bin opd_add (de_callB calld_len (by rfl) z.len bt_len (da_cons (vB 0) da_nil)) de_int) da_nil)) (blkOk_by (N := N_cuts_of) (sc := (defScope s_cuts_of)) (own := [("i", 1)]) (by decide +kernel)) (fun _ _ _ _ _ => (gN 1 sc_cuts_of.nd)) (fun _ _ _ _ _ => (dts_one (dt_val (de_callB (calld_all rfl) (by rfl) z.all bt_all (da_cons (de_comp (own := [("height", 2)]) rfl sc_cuts_of.nd (di_seq (dd_of (de_slice (vB 0) do_none (do_some (dd_of (vV 1)))))) (blkOk_by (N := N_cuts_of) (sc := ({ kind := PySem.ScopeKind.function, names := [ (PySem.Str.ofString ".0", PySem.NameKind.local), (PySem.Str.ofString "i", PySem.NameKind.cell), (PySem.Str.ofString "all", PySem.NameKind.globalImplicit), (PySem.Str.ofString "order", PySem.NameKind.cell)], isGenerator := false, isCoroutine := false, more := [] : PySem.Scope })) (own := [("height", 2)]) (by decide +kernel)) (fun _ _ _ _ _ => (gN 2 sc_cuts_of.nd)) (fun _ _ _ _ _ => dts_nil) (fun _ _ _ _ _ => (dd_of (de_cmp opd_lt (vB 2) (vB 1) (nomark _)))) rfl) da_nil))))) (fun _ _ _ _ _ => (dd_of (vV 1))) rfl)))
theorem ok_parts_of (z : Zs mg) (y : SysAt base) {f : Addr} {fd : FuncData} (Fu : Fun K "parts_of" "parts_of" s_parts_of f fd) (c_order_at : Cal P w K mg base 1 "order_at" ["order", "places"] fm_order_at) (c_cuts_of : Cal P w K mg base 1 "cuts_of" ["order"] fm_cuts_of) : FnD P w K mg base 2 f fd ["order"] fm_parts_of := by
  refine fnd_ok (N := N_parts_of) (k := 1) Fu sc_parts_of fun cdv A outer s H F l hr hg => ?_
  have hu := units_of hr
  exact (dss_cons (sSet 1 sc_parts_of.nd (de_arg (cC c_cuts_of hr hg (da_cons (de_arg (vV 0)) da_nil))))
    (dss_one (ds_ret (de_callTy calld_tuple (by rfl) z.tuple bt_tuple (da_cons (de_comp (own := [("i", 2), ("j", 3)]) rfl sc_parts_of.nd (di_zip (by rfl) z.zip (da_cons (de_arg (vV 1)) (da_cons (de_arg (de_slice (vB 1) (do_some (dd_of de_int)) do_none)) da_nil))) (blkOk_by (N := N_parts_of) (sc := (defScope s_parts_of)) (own := [("i", 2), ("j", 3)]) (by decide +kernel)) (fun _ _ _ _ _ => (dg_tup rfl (dgs_cons (gN 2 sc_parts_of.nd) (dgs_cons (gN 3 sc_parts_of.nd) dgs_nil)))) (fun _ _ _ _ _ => dts_nil) (fun _ _ _ _ _ => (dd_of (cC c_order_at hr hg (da_cons (de_arg (vV 0)) (da_cons (de_arg (de_tupRg rfl (by rfl) z.tuple (dr_2 (by rfl) z.range (dd_of (vV 2)) (dd_of (vV 3))))) da_nil))))) rfl) da_nil)))))
theorem ok_is_unbreakable (z : Zs mg) (y : SysAt base) {f : Addr} {fd : FuncData} (Fu : Fun K "is_unbreakable" "is_unbreakable" s_is_unbreakable f fd) (c_parts_of : Cal P w K mg base 2 "parts_of" ["order"] fm_parts_of) : FnD P w K mg base 3 f fd ["order"] fm_is_unbreakable := by
  refine fnd_ok (N := N_is_unbreakable) (k := 2) Fu sc_is_unbreakable fun cdv A outer s H F l hr hg => ?_
  have hu := units_of hr
  exact (dss_one (ds_ret (de_cmp (opd_eq (hu64 hu)) (de_callB calld_len (by rfl) z.len bt_len (da_cons (cC c_parts_of hr hg (da_cons (de_arg (vV 0)) da_nil)) da_nil)) de_int (nomark _))))
theorem ok_judge_parts (z : Zs mg) (y : SysAt base) {f : Addr} {fd : FuncData} (Fu : Fun K "judge_parts" "judge_parts" s_judge_parts f fd) (c_put_all : Cal P w K mg base 2 "put_all" ["orders"] fm_put_all) (c_is_unbreakable : Cal P w K mg base 3 "is_unbreakable" ["order"] fm_is_unbreakable) (c_is_order : Cal P w K mg base 2 "is_order" ["value"] fm_is_order) : FnD P w K mg base 4 f fd ["order", "value"] fm_judge_parts := by
  refine fnd_ok (N := N_judge_parts) (k := 3) Fu sc_judge_parts fun cdv A outer s H F l hr hg => ?_
  have hu := units_of hr
  exact (dss_cons (ds_if (DW.dt (dw_or (dt_not (dt_val (de_isi isi_tuple (by rfl) z.isinstance (by rfl) z.tuple bt_tuple (vB 1)))) (dw_or1 (dt_not (dt_val (de_callB (calld_all rfl) (by rfl) z.all bt_all (da_cons (de_comp (own := [("part", 2)]) rfl sc_judge_parts.nd (di_seq (dd_of (vV 1))) (blkOk_by (N := N_judge_parts) (sc := (defScope s_judge_parts)) (own := [("part", 2)]) (by decide +kernel)) (fun _ _ _ _ _ => (gN 2 sc_judge_parts.nd)) (fun _ _ _ _ _ => dts_nil) (fun _ _ _ _ _ => (dd_of (cC c_is_order hr hg (da_cons (de_arg (vV 2)) da_nil)))) rfl) da_nil))))))) (dss_one (ds_ret (de_tup (da_cons (de_arg de_str) da_nil)))) dss_nil)
    (dss_cons (ds_setCF (i := 3) (own := [("i", 4), ("part", 2)]) rfl sc_judge_parts.nd rfl rfl (by rfl) (di_enum (by rfl) z.enumerate (da_cons (de_arg (vV 1)) da_nil)) (blkOk_by (N := N_judge_parts) (sc := (defScope s_judge_parts)) (own := [("i", 4), ("part", 2)]) (by decide +kernel)) (fun _ _ _ _ _ => (dg_tup rfl (dgs_cons (gN 4 sc_judge_parts.nd) (dgs_cons (gN 2 sc_judge_parts.nd) dgs_nil)))) (fun _ _ _ _ _ => (dts_one (dt_not (dt_val (cC c_is_unbreakable hr hg (da_cons (de_arg (vV 2)) da_nil)))))) (fun _ _ _ _ _ => (dd_of (vV 4))) rfl)
    (dss_cons (ds_if (dt_cmp (opd_ne (hu64 hu)) (vB 3) (de_lst da_nil) (nomark _)) (dss_one (ds_ret (de_tup (da_cons (de_arg de_str) (da_cons (de_arg (de_ix (vB 3) de_int)) da_nil))))) dss_nil)
    (dss_cons (sSet 5 sc_judge_parts.nd (de_arg (cC c_put_all hr hg (da_cons (de_arg (vV 1)) da_nil))))
    (dss_one (ds_ret (de_if (dt_cmp (opd_ne (hu64 hu)) (vB 5) (vB 0) (nomark _)) (de_tup (da_cons (de_arg de_str) (da_cons (de_arg (vV 5)) da_nil))) de_none)))))))
theorem ok__law_source (z : Zs mg) (y : SysAt base) {f : Addr} {fd : FuncData} (Fu : Fun K "_law_source" "_law_source" s__law_source f fd)  : FnD P w K mg base 1 f fd ["script"] fm__law_source := by
  refine fnd_ok (N := N__law_source) (k := 0) Fu sc__law_source fun cdv A outer s H F l hr hg => ?_
  have hu := units_of hr
  exact (dss_cons (sSet 1 sc__law_source.nd de_int)
    (dss_cons (ds_for PassesOwn.never rfl (di_scr (vB 0)) (gN 2 sc__law_source.nd) (dss_one (sSet 1 sc__law_source.nd (de_bin opd_mod (de_callTy calld_int (by rfl) z.int bt_int (da_cons (de_bin opd_add (de_bin opd_add (de_bin opd_mul (vB 1) de_int) (de_bin opd_mul (vB 2) de_int)) de_int) da_nil)) de_int))))
    (dss_one (ds_ret (de_srcNew (de_rev (de_comp (own := [("cell", 2)]) rfl sc__law_source.nd (di_scr (vB 0)) (blkOk_by (N := N__law_source) (sc := (defScope s__law_source)) (own := [("cell", 2)]) (by decide +kernel)) (fun _ _ _ _ _ => (gN 2 sc__law_source.nd)) (fun _ _ _ _ _ => dts_nil) (fun _ _ _ _ _ => (dd_of (de_callB calld_abs (by rfl) z.abs bt_abs (da_cons (vB 2) da_nil)))) rfl)) de_int (vV 1) de_int)))))
theorem ok__law_pick (z : Zs mg) (y : SysAt base) {f : Addr} {fd : FuncData} (Fu : Fun K "_law_pick" "_law_pick" s__law_pick f fd)  : FnD P w K mg base 1 f fd ["source", "many"] fm__law_pick := by
  refine fnd_ok (N := N__law_pick) (k := 0) Fu sc__law_pick fun cdv A outer s H F l hr hg => ?_
  have hu := units_of hr
  exact (dss_cons (ds_while fuel__law_pick PassesOwn.never (DW.dt (dw_and (dt_cmp opd_gt (vB 1) de_int (nomark _)) (dw_and (dt_cmp opd_lt (de_srcGet (hu1 hu) (vB 0)) de_int (nomark _)) (dw_and1 (dt_cmp opd_gt (de_srcLen (by rfl) z.len (de_srcGet (hu1 hu) (vB 0))) de_int (nomark _)))))) (dss_one (ds_srcPut (hu1 hu) (de_srcPop (de_srcGet (hu1 hu) (vB 0))) (vB 0))))
    (dss_cons (sSet 2 sc__law_pick.nd (de_srcGet (hu1 hu) (vB 0)))
    (dss_cons (ds_if (DW.dt (dw_or (dt_cmp opd_lt (vB 1) de_int (nomark _)) (dw_or1 (dt_cmp opd_gt (vB 2) de_int (nomark _))))) (dss_cons (ds_srcPut (hu1 hu) (de_bin opd_fdiv (vB 2) (de_callB (calld_max2 rfl) (by rfl) z.max bt_max (da_cons de_int (da_cons (vB 1) da_nil)))) (vB 0))
    (dss_one (ds_ret (de_bin opd_mod (de_callTy calld_int (by rfl) z.int bt_int (da_cons (vB 2) da_nil)) (de_callB (calld_max2 rfl) (by rfl) z.max bt_max (da_cons de_int (da_cons (vB 1) da_nil))))))) dss_nil)
    (dss_cons (ds_srcPut (hu1 hu) (de_bin opd_add (de_srcGet (hu1 hu) (vB 0)) de_int) (vB 0))
    (dss_cons (sSet 3 sc__law_pick.nd (de_bin opd_mod (de_callTy calld_int (by rfl) z.int bt_int (da_cons (de_bin opd_add (de_srcGet (hu1 hu) (vB 0)) (de_bin opd_mul (de_srcGet (hu1 hu) (vB 0)) de_int)) da_nil)) de_int))
    (dss_cons (sSet 3 sc__law_pick.nd (de_bin opd_mod (de_callTy calld_int (by rfl) z.int bt_int (da_cons (de_bin opd_add (de_bin opd_mul (vB 3) (vB 3)) (de_bin opd_mul (de_srcGet (hu1 hu) (vB 0)) de_int)) da_nil)) de_int))
    (dss_cons (ds_srcPut (hu1 hu) (vB 3) (vB 0))
    (dss_one (ds_ret (de_bin opd_mod (de_callTy calld_int (by rfl) z.int bt_int (da_cons (de_bin opd_fdiv (vB 3) de_int) da_nil)) (vB 1)))))))))))
theorem ok__law_of (z : Zs mg) (y : SysAt base) {f : Addr} {fd : FuncData} (Fu : Fun K "_law_of" "_law_of" s__law_of f fd) (c__law_pick : Cal P w K mg base 1 "_law_pick" ["source", "many"] fm__law_pick) : FnD P w K mg base 2 f fd ["source", "some"] fm__law_of := by
  refine fnd_ok (N := N__law_of) (k := 1) Fu sc__law_of fun cdv A outer s H F l hr hg => ?_
  have hu := units_of hr
  exact (dss_one (ds_ret (de_ix (vB 1) (cC c__law_pick hr hg (da_cons (de_arg (vV 0)) (da_cons (de_arg (de_callB calld_len (by rfl) z.len bt_len (da_cons (vB 1) da_nil))) da_nil))))))
theorem ok__law_mixed (z : Zs mg) (y : SysAt base) {f : Addr} {fd : FuncData} (Fu : Fun K "_law_mixed" "_law_mixed" s__law_mixed f fd) (c__law_pick : Cal P w K mg base 1 "_law_pick" ["source", "many"] fm__law_pick) : FnD P w K mg base 2 f fd ["source", "things"] fm__law_mixed := by
  refine fnd_ok (N := N__law_mixed) (k := 1) Fu sc__law_mixed fun cdv A outer s H F l hr hg => ?_
  have hu := units_of hr
  exact (dss_cons (sSet 2 sc__law_mixed.nd (de_callTy calld_list (by rfl) z.list bt_list (da_cons (vB 1) da_nil)))
    (dss_one (ds_ret (de_comp (own := [("turn", 3)]) rfl sc__law_mixed.nd (di_range1 (by rfl) z.range (da_cons (de_callB calld_len (by rfl) z.len bt_len (da_cons (vB 2) da_nil)) da_nil)) (blkOk_by (N := N__law_mixed) (sc := (defScope s__law_mixed)) (own := [("turn", 3)]) (by decide +kernel)) (fun _ _ _ _ _ => (gN 3 sc__law_mixed.nd)) (fun _ _ _ _ _ => dts_nil) (fun _ _ _ _ _ => (dd_of (de_popAt (pv 2) (dd_of (cC c__law_pick hr hg (da_cons (de_arg (vV 0)) (da_cons (de_arg (de_callB calld_len (by rfl) z.len bt_len (da_cons (vB 2) da_nil))) da_nil))))))) rfl))))
theorem ok__law_order (z : Zs mg) (y : SysAt base) {f : Addr} {fd : FuncData} (Fu : Fun K "_law_order" "_law_order" s__law_order f fd) (c__law_mixed : Cal P w K mg base 2 "_law_mixed" ["source", "things"] fm__law_mixed) : FnD P w K mg base 3 f fd ["source", "n"] fm__law_order := by
  refine fnd_ok (N := N__law_order) (k := 2) Fu sc__law_order fun cdv A outer s H F l hr hg => ?_
  have hu := units_of hr
  exact (dss_one (ds_ret (de_callTy calld_tuple (by rfl) z.tuple bt_tuple (da_cons (cC c__law_mixed hr hg (da_cons (de_arg (vV 0)) (da_cons (de_arg (de_listRg rfl (by rfl) z.list (dr_1 (by rfl) z.range (dd_of (vV 1))))) da_nil))) da_nil))))
theorem ok__law_bent (z : Zs mg) (y : SysAt base) {f : Addr} {fd : FuncData} (Fu : Fun K "_law_bent" "_law_bent" s__law_bent f fd) (hm : mg "_law_bent" = some (.ref f)) (hb : Binds K fd ["source", "value", "odd"] []) (c__law_of : Cal P w K mg base 2 "_law_of" ["source", "some"] fm__law_of) (c__law_pick : Cal P w K mg base 1 "_law_pick" ["source", "many"] fm__law_pick) : ∀ n : Nat, FnD P w K mg base (3 + n) f fd ["source", "value", "odd"] (fm__law_bent' n) := by
  intro n
  induction n with
  | zero => exact FnD.bad
  | succ n ih =>
    have c__law_bent := cal_of Fu hm hb ih
    refine fnd_ok (N := N__law_bent) (k := 3 + n) Fu sc__law_bent fun cdv A outer s H F l hr hg => ?_
    have hu := units_of hr
    exact (dss_cons (ds_if (DW.dt (dw_and (dt_val (de_isi isi_int (by rfl) z.isinstance (by rfl) z.int bt_int (vB 1))) (dw_and (dt_not (dt_val (de_isi isi_bool (by rfl) z.isinstance (by rfl) z.bool bt_bool (vB 1)))) (dw_and1 (dt_cmp opd_gt (cC c__law_pick hr hg (da_cons (de_arg (vV 0)) (da_cons (de_arg de_int) da_nil))) de_int (nomark _)))))) (dss_one (ds_ret (de_bin opd_add (vB 1) (cC c__law_of hr hg (da_cons (de_arg (vV 0)) (da_cons (de_arg (de_lst (da_cons (de_arg de_int) (da_cons (de_arg (de_un und_neg de_int)) (da_cons (de_arg de_int) da_nil))))) da_nil)))))) dss_nil)
    (dss_cons (ds_if (DW.dt (dw_or (dt_not (dt_val (de_isi isi_tuple (by rfl) z.isinstance (by rfl) z.tuple bt_tuple (vB 1)))) (dw_or (dt_cmp (opd_eq (hu64 hu)) (vB 1) (de_tup da_nil) (nomark _)) (dw_or1 (dt_cmp (opd_eq (hu64 hu)) (cC c__law_pick hr hg (da_cons (de_arg (vV 0)) (da_cons (de_arg de_int) da_nil))) de_int (nomark _)))))) (dss_one (ds_ret (cC c__law_of hr hg (da_cons (de_arg (vV 0)) (da_cons (de_arg (vV 2)) da_nil))))) dss_nil)
    (dss_cons (ds_par (i := 3) (j := 4) rfl sc__law_bent.nd rfl rfl (by decide) rfl rfl (da_cons (de_arg (cC c__law_pick hr hg (da_cons (de_arg (vV 0)) (da_cons (de_arg (de_callB calld_len (by rfl) z.len bt_len (da_cons (vB 1) da_nil))) da_nil)))) (da_cons (de_arg (cC c__law_pick hr hg (da_cons (de_arg (vV 0)) (da_cons (de_arg de_int) da_nil)))) da_nil)) (by rfl))
    (dss_cons (ds_if (dt_cmp opd_lt (vB 4) de_int (nomark _)) (dss_one (ds_ret (de_bin opd_add (de_bin opd_add (de_slice (vB 1) do_none (do_some (dd_of (vV 3)))) (de_tup (da_cons (de_arg (cC c__law_bent hr hg (da_cons (de_arg (vV 0)) (da_cons (de_arg (de_ix (vB 1) (vB 3))) (da_cons (de_arg (vV 2)) da_nil))))) da_nil))) (de_slice (vB 1) (do_some (dd_of (de_bin opd_add (vB 3) de_int))) do_none)))) dss_nil)
    (dss_one (ds_ret (cC c__law_of hr hg (da_cons (de_arg (vV 0)) (da_cons (de_arg (de_lst (da_cons (de_arg (de_bin opd_add (de_slice (vB 1) do_none (do_some (dd_of (vV 3)))) (de_slice (vB 1) (do_some (dd_of (de_bin opd_add (vB 3) de_int))) do_none))) (da_cons (de_arg (de_bin opd_add (de_slice (vB 1) do_none (do_some (dd_of (de_bin opd_add (vB 3) de_int)))) (de_slice (vB 1) (do_some (dd_of (vV 3))) do_none))) (da_cons (de_arg (de_rev (vB 1))) (da_cons (de_arg (de_callTy calld_list (by rfl) z.list bt_list (da_cons (vB 1) da_nil))) da_nil)))))) da_nil)))))))))
theorem ok__law_is_order (z : Zs mg) (y : SysAt base) {f : Addr} {fd : FuncData} (Fu : Fun K "_law_is_order" "_law_is_order" s__law_is_order f fd)  : FnD P w K mg base 1 f fd ["value"] fm__law_is_order := by
  refine fnd_ok (N := N__law_is_order) (k := 0) Fu sc__law_is_order fun cdv A outer s H F l hr hg => ?_
  have hu := units_of hr
  exact (dss_cons (ds_if (DW.dt (dw_or (dt_not (dt_val (de_isi isi_tuple (by rfl) z.isinstance (by rfl) z.tuple bt_tuple (vB 0)))) (dw_or1 (dt_cmp (opd_ne (hu64 hu)) (de_comp (own := [("i", 1)]) rfl sc__law_is_order.nd (di_seq (dd_of (vV 0))) (blkOk_by (N := N__law_is_order) (sc := (defScope s__law_is_order)) (own := [("i", 1)]) (by decide +kernel)) (fun _ _ _ _ _ => (gN 1 sc__law_is_order.nd)) (fun _ _ _ _ _ => (dts_one (DW.dt (dw_or (dt_not (dt_val (de_isi isi_int (by rfl) z.isinstance (by rfl) z.int bt_int (vB 1)))) (dw_or1 (dt_val (de_isi isi_bool (by rfl) z.isinstance (by rfl) z.bool bt_bool (vB 1)))))))) (fun _ _ _ _ _ => (dd_of (vV 1))) rfl) (de_lst da_nil) (nomark _))))) (dss_one (ds_ret de_bool)) dss_nil)
    (dss_one (ds_ret (de_cmp (opd_eq (hu64 hu)) (de_callB (calld_sorted (hu64 hu)) (by rfl) z.sorted bt_sorted (da_cons (vB 0) da_nil)) (de_listRg rfl (by rfl) z.list (dr_1 (by rfl) z.range (dd_of (de_callB calld_len (by rfl) z.len bt_len (da_cons (vB 0) da_nil))))) (nomark _)))))
theorem ok__law_fault (z : Zs mg) (y : SysAt base) {f : Addr} {fd : FuncData} (Fu : Fun K "_law_fault" "_law_fault" s__law_fault f fd) (c__law_is_order : Cal P w K mg base 1 "_law_is_order" ["value"] fm__law_is_order) : FnD P w K mg base 2 f fd ["order", "value"] fm__law_fault := by
  refine fnd_ok (N := N__law_fault) (k := 1) Fu sc__law_fault fun cdv A outer s H F l hr hg => ?_
  have hu := units_of hr
  exact (dss_cons (ds_if (DW.dt (dw_or (dt_not (dt_val (de_isi isi_tuple (by rfl) z.isinstance (by rfl) z.tuple bt_tuple (vB 1)))) (dw_or1 (dt_cmp (opd_ne (hu64 hu)) (de_comp (own := [("part", 2)]) rfl sc__law_fault.nd (di_seq (dd_of (vV 1))) (blkOk_by (N := N__law_fault) (sc := (defScope s__law_fault)) (own := [("part", 2)]) (by decide +kernel)) (fun _ _ _ _ _ => (gN 2 sc__law_fault.nd)) (fun _ _ _ _ _ => (dts_one (dt_not (dt_val (cC c__law_is_order hr hg (da_cons (de_arg (vV 2)) da_nil)))))) (fun _ _ _ _ _ => (dd_of (vV 2))) rfl) (de_lst da_nil) (nomark _))))) (dss_one (ds_ret (de_tup (da_cons (de_arg de_str) da_nil)))) dss_nil)
    (dss_cons (ds_for PassesOwn.never rfl (di_enum (by rfl) z.enumerate (da_cons (de_arg (vV 1)) da_nil)) (dg_tup rfl (dgs_cons (gN 3 sc__law_fault.nd) (dgs_cons (gN 2 sc__law_fault.nd) dgs_nil))) (dss_one (ds_if (dt_cmp (opd_ne (hu64 hu)) (de_callB calld_len (by rfl) z.len bt_len (da_cons (de_comp (own := [("k", 4)]) rfl sc__law_fault.nd (di_range1 (by rfl) z.range (da_cons (de_bin opd_add (de_callB calld_len (by rfl) z.len bt_len (da_cons (vB 2) da_nil)) de_int) da_nil)) (blkOk_by (N := N__law_fault) (sc := (defScope s__law_fault)) (own := [("k", 4)]) (by decide +kernel)) (fun _ _ _ _ _ => (gN 4 sc__law_fault.nd)) (fun _ _ _ _ _ => (dts_one (dt_cmp (opd_eq (hu64 hu)) (de_callB (calld_sorted (hu64 hu)) (by rfl) z.sorted bt_sorted (da_cons (de_slice (vB 2) do_none (do_some (dd_of (vV 4)))) da_nil)) (de_listRg rfl (by rfl) z.list (dr_1 (by rfl) z.range (dd_of (vV 4)))) (nomark _)))) (fun _ _ _ _ _ => (dd_of (vV 4))) rfl) da_nil)) de_int (nomark _)) (dss_one (ds_ret (de_tup (da_cons (de_arg de_str) (da_cons (de_arg (vV 3)) da_nil))))) dss_nil)))
    (dss_cons (sSet 5 sc__law_fault.nd (de_tup da_nil))
    (dss_cons (ds_for PassesOwn.never rfl (di_seq (dd_of (vV 1))) (gN 2 sc__law_fault.nd) (dss_one (sSet 5 sc__law_fault.nd (de_arg (de_bin opd_add (vB 5) (de_callTy calld_tuple (by rfl) z.tuple bt_tuple (da_cons (de_comp (own := [("height", 6)]) rfl sc__law_fault.nd (di_seq (dd_of (vV 2))) (blkOk_by (N := N__law_fault) (sc := (defScope s__law_fault)) (own := [("height", 6)]) (by decide +kernel)) (fun _ _ _ _ _ => (gN 6 sc__law_fault.nd)) (fun _ _ _ _ _ => dts_nil) (fun _ _ _ _ _ => (dd_of (de_bin opd_add (vB 6) (de_callB calld_len (by rfl) z.len bt_len (da_cons (vB 5) da_nil))))) rfl) da_nil)))))))
    (dss_one (ds_ret (de_if (dt_cmp (opd_ne (hu64 hu)) (vB 5) (vB 0) (nomark _)) (de_tup (da_cons (de_arg de_str) (da_cons (de_arg (vV 5)) da_nil))) de_none)))))))
theorem ok_law (z : Zs mg) (y : SysAt base) {f : Addr} {fd : FuncData} (Fu : Fun K "law" "law" s_law f fd) (c_judge_parts : Cal P w K mg base 4 "judge_parts" ["order", "value"] fm_judge_parts) (c__law_bent : Cal P w K mg base 11 "_law_bent" ["source", "value", "odd"] fm__law_bent) (c__law_fault : Cal P w K mg base 2 "_law_fault" ["order", "value"] fm__law_fault) (c__law_mixed : Cal P w K mg base 2 "_law_mixed" ["source", "things"] fm__law_mixed) (c_parts_of : Cal P w K mg base 2 "parts_of" ["order"] fm_parts_of) (c__law_pick : Cal P w K mg base 1 "_law_pick" ["source", "many"] fm__law_pick) (c__law_order : Cal P w K mg base 3 "_law_order" ["source", "n"] fm__law_order) (c__law_source : Cal P w K mg base 1 "_law_source" ["script"] fm__law_source) : FnD P w K mg base 12 f fd ["script"] fm_law := by
  refine fnd_ok (N := N_law) (k := 11) Fu sc_law fun cdv A outer s H F l hr hg => ?_
  have hu := units_of hr
  exact (dss_cons (sSet 1 sc_law.nd (de_arg (cC c__law_source hr hg (da_cons (de_arg (vV 0)) da_nil))))
    (dss_cons (sSet 2 sc_law.nd (de_arg (de_lst (da_cons (de_arg de_none) (da_cons (de_arg de_bool) (da_cons (de_arg de_int) (da_cons (de_arg de_int) (da_cons (de_arg (de_un und_neg de_int)) (da_cons (de_arg de_str) (da_cons (de_arg (de_tup da_nil)) (da_cons (de_arg (de_tup (da_cons (de_arg de_int) da_nil))) (da_cons (de_arg (de_tup (da_cons (de_arg de_int) (da_cons (de_arg de_int) da_nil)))) (da_cons (de_arg (de_tup (da_cons (de_arg de_int) (da_cons (de_arg de_int) da_nil)))) (da_cons (de_arg (de_tup (da_cons (de_arg (de_tup (da_cons (de_arg de_int) da_nil))) da_nil))) (da_cons (de_arg (de_tup (da_cons (de_arg (de_tup (da_cons (de_arg de_int) (da_cons (de_arg de_int) da_nil)))) da_nil))) (da_cons (de_arg (de_tup (da_cons (de_arg (de_tup (da_cons (de_arg de_int) (da_cons (de_arg de_int) da_nil)))) da_nil))) (da_cons (de_arg (de_lst da_nil)) (da_cons (de_arg de_dict0) (da_cons (de_arg (de_bin opd_pow de_int de_int)) da_nil)))))))))))))))))))
    (dss_cons (ds_for PassesOwn.never rfl (di_range1 (by rfl) z.range (da_cons de_int da_nil)) (gN 3 sc_law.nd) (dss_cons (ds_setCF (i := 4) (own := [("turn", 5)]) rfl sc_law.nd rfl rfl (by rfl) (di_range1 (by rfl) z.range (da_cons (de_bin opd_add de_int (cC c__law_pick hr hg (da_cons (de_arg (vV 1)) (da_cons (de_arg de_int) da_nil)))) da_nil)) (blkOk_by (N := N_law) (sc := (defScope s_law)) (own := [("turn", 5)]) (by decide +kernel)) (fun _ _ _ _ _ => (gN 5 sc_law.nd)) (fun _ _ _ _ _ => dts_nil) (fun _ _ _ _ _ => (dd_of (cC c__law_order hr hg (da_cons (de_arg (vV 1)) (da_cons (de_arg (cC c__law_pick hr hg (da_cons (de_arg (vV 1)) (da_cons (de_arg de_int) da_nil)))) da_nil))))) rfl)
    (dss_cons (sSet 6 sc_law.nd (de_tup da_nil))
    (dss_cons (ds_for PassesOwn.never rfl (di_seq (dd_of (vV 4))) (gN 7 sc_law.nd) (dss_one (sSet 6 sc_law.nd (de_arg (de_bin opd_add (vB 6) (de_callTy calld_tuple (by rfl) z.tuple bt_tuple (da_cons (de_comp (own := [("height", 8)]) rfl sc_law.nd (di_seq (dd_of (vV 7))) (blkOk_by (N := N_law) (sc := (defScope s_law)) (own := [("height", 8)]) (by decide +kernel)) (fun _ _ _ _ _ => (gN 8 sc_law.nd)) (fun _ _ _ _ _ => dts_nil) (fun _ _ _ _ _ => (dd_of (de_bin opd_add (vB 8) (de_callB calld_len (by rfl) z.len bt_len (da_cons (vB 6) da_nil))))) rfl) da_nil)))))))
    (dss_cons (sSet 9 sc_law.nd (de_arg (cC c_parts_of hr hg (da_cons (de_arg (vV 6)) da_nil))))
    (dss_cons (ds_if (DW.dt (dw_or (dt_cmp opd_isnot (cC c_judge_parts hr hg (da_cons (de_arg (vV 6)) (da_cons (de_arg (vV 9)) da_nil))) de_none (nomark _)) (dw_or1 (dt_cmp opd_isnot (cC c__law_fault hr hg (da_cons (de_arg (vV 6)) (da_cons (de_arg (vV 9)) da_nil))) de_none (nomark _))))) (dss_one (ds_ret de_bool)) dss_nil)
    (dss_cons (sSet 10 sc_law.nd (de_arg (de_lst (da_cons (de_arg (de_callTy calld_list (by rfl) z.list bt_list (da_cons (vB 9) da_nil))) (da_cons (de_arg (de_slice (vB 9) (do_some (dd_of de_int)) do_none)) (da_cons (de_arg (de_slice (vB 9) do_none (do_some (dd_of (de_un und_neg de_int))))) (da_cons (de_arg (de_rev (vB 9))) (da_cons (de_arg (de_bin opd_add (vB 9) (de_slice (vB 9) do_none (do_some (dd_of de_int))))) (da_cons (de_arg (de_callTy calld_tuple (by rfl) z.tuple bt_tuple (da_cons (vB 4) da_nil))) (da_cons (de_arg (de_tup (da_cons (de_arg (vV 6)) da_nil))) (da_cons (de_arg (de_tup da_nil)) (da_cons (de_arg de_none) (da_cons (de_arg (vV 6)) da_nil)))))))))))))
    (dss_cons (sSet 10 sc_law.nd (de_arg (de_bin opd_add (vB 10) (de_lst (da_cons (de_arg (de_bin opd_add (vB 9) (de_tup (da_cons (de_arg (de_tup da_nil)) da_nil)))) (da_cons (de_arg (de_callTy calld_tuple (by rfl) z.tuple bt_tuple (da_cons (cC c__law_mixed hr hg (da_cons (de_arg (vV 1)) (da_cons (de_arg (de_callTy calld_list (by rfl) z.list bt_list (da_cons (vB 9) da_nil))) da_nil))) da_nil))) (da_cons (de_arg (de_callTy calld_tuple (by rfl) z.tuple bt_tuple (da_cons (de_comp (own := [("part", 11)]) rfl sc_law.nd (di_seq (dd_of (vV 9))) (blkOk_by (N := N_law) (sc := (defScope s_law)) (own := [("part", 11)]) (by decide +kernel)) (fun _ _ _ _ _ => (gN 11 sc_law.nd)) (fun _ _ _ _ _ => dts_nil) (fun _ _ _ _ _ => (dd_of (de_callTy calld_list (by rfl) z.list bt_list (da_cons (vB 11) da_nil)))) rfl) da_nil))) da_nil)))))))
    (dss_one (ds_for PassesOwn.never rfl (di_seq (dd_of (de_bin opd_add (de_bin opd_add (vB 10) (vB 2)) (de_comp (own := [("look", 13)]) rfl sc_law.nd (di_range1 (by rfl) z.range (da_cons de_int da_nil)) (blkOk_by (N := N_law) (sc := (defScope s_law)) (own := [("look", 13)]) (by decide +kernel)) (fun _ _ _ _ _ => (gN 13 sc_law.nd)) (fun _ _ _ _ _ => dts_nil) (fun _ _ _ _ _ => (dd_of (cC c__law_bent hr hg (da_cons (de_arg (vV 1)) (da_cons (de_arg (vV 9)) (da_cons (de_arg (vV 2)) da_nil)))))) rfl)))) (gN 12 sc_law.nd) (dss_cons (ds_par (i := 14) (j := 15) rfl sc_law.nd rfl rfl (by decide) rfl rfl (da_cons (de_arg (de_repr hg y hu (by rfl) z.repr (dd_of (vV 12)))) (da_cons (de_arg (cC c__law_fault hr hg (da_cons (de_arg (vV 6)) (da_cons (de_arg (vV 12)) da_nil)))) da_nil)) (by rfl))
    (dss_one (ds_if (DW.dt (dw_or (dt_cmp (opd_ne (hu64 hu)) (de_repr hg y hu (by rfl) z.repr (dd_of (cC c_judge_parts hr hg (da_cons (de_arg (vV 6)) (da_cons (de_arg (vV 12)) da_nil))))) (de_repr hg y hu (by rfl) z.repr (dd_of (vV 15))) (nomark _)) (dw_or1 (dt_cmp (opd_ne (hu64 hu)) (de_repr hg y hu (by rfl) z.repr (dd_of (vV 12))) (vB 14) (nomark _))))) (dss_one (ds_ret de_bool)) dss_nil)))))))))))))
    (dss_one (ds_ret (de_cmp (opd_eq (hu64 hu)) (cC c_judge_parts hr hg (da_cons (de_arg (de_tup (da_cons (de_arg de_int) (da_cons (de_arg de_int) (da_cons (de_arg de_int) da_nil))))) (da_cons (de_arg (de_tup (da_cons (de_arg (de_tup (da_cons (de_arg de_int) da_nil))) (da_cons (de_arg (de_tup (da_cons (de_arg de_int) (da_cons (de_arg de_int) da_nil)))) da_nil)))) da_nil))) (de_tup (da_cons (de_arg de_str) (da_cons (de_arg (de_tup (da_cons (de_arg de_int) (da_cons (de_arg de_int) (da_cons (de_arg de_int) da_nil))))) da_nil))) (nomark _)))))))
end
theorem all_mk {l : PySem.W.OpenLaw} {w : World} {K : PySem.W.Frag} {h : Heap} {mg : Str → Option Value} {fa f0 f1 f2 f3 f4 f5 f6 f7 f8 f9 f10 f11 f12 f13 f14 f15 f16 f17 : Addr} (X : K.In h) (G : h.Ns mainGlobals mg) (hfa : mg "law" = some (.ref fa))
    {od0 an0 : Option Addr} {sl0 : Array (Option Value)} {oc0 kV0 dc0 pm0 cd0 ct0 : Value}
    (a0 : PySem.W.nsIn K mainGlobals "is_whole" = some (some (.ref f0))) (l0 : K.lookup f0 = some ⟨oc0, od0, .func (PySem.W.fnOf "is_whole" "is_whole" (defArgs s_is_whole) (defBody s_is_whole) (defScope s_is_whole) .none kV0 dc0 pm0 an0 cd0 ct0), sl0⟩) (c0 : PySem.W.codeIn K cd0 "is_whole" = true) (k0 : PySem.W.keepIn K (.ref f0) = true)
    {od1 an1 : Option Addr} {sl1 : Array (Option Value)} {oc1 kV1 dc1 pm1 cd1 ct1 : Value}
    (a1 : PySem.W.nsIn K mainGlobals "is_order" = some (some (.ref f1))) (l1 : K.lookup f1 = some ⟨oc1, od1, .func (PySem.W.fnOf "is_order" "is_order" (defArgs s_is_order) (defBody s_is_order) (defScope s_is_order) .none kV1 dc1 pm1 an1 cd1 ct1), sl1⟩) (c1 : PySem.W.codeIn K cd1 "is_order" = true) (k1 : PySem.W.keepIn K (.ref f1) = true)
    {od2 an2 : Option Addr} {sl2 : Array (Option Value)} {oc2 kV2 dc2 pm2 cd2 ct2 : Value}
    (a2 : PySem.W.nsIn K mainGlobals "order_at" = some (some (.ref f2))) (l2 : K.lookup f2 = some ⟨oc2, od2, .func (PySem.W.fnOf "order_at" "order_at" (defArgs s_order_at) (defBody s_order_at) (defScope s_order_at) .none kV2 dc2 pm2 an2 cd2 ct2), sl2⟩) (c2 : PySem.W.codeIn K cd2 "order_at" = true) (k2 : PySem.W.keepIn K (.ref f2) = true)
    {od3 an3 : Option Addr} {sl3 : Array (Option Value)} {oc3 kV3 dc3 pm3 cd3 ct3 : Value}
    (a3 : PySem.W.nsIn K mainGlobals "put_behind" = some (some (.ref f3))) (l3 : K.lookup f3 = some ⟨oc3, od3, .func (PySem.W.fnOf "put_behind" "put_behind" (defArgs s_put_behind) (defBody s_put_behind) (defScope s_put_behind) .none kV3 dc3 pm3 an3 cd3 ct3), sl3⟩) (c3 : PySem.W.codeIn K cd3 "put_behind" = true) (k3 : PySem.W.keepIn K (.ref f3) = true)
    {od4 an4 : Option Addr} {sl4 : Array (Option Value)} {oc4 kV4 dc4 pm4 cd4 ct4 : Value}
    (a4 : PySem.W.nsIn K mainGlobals "put_all" = some (some (.ref f4))) (l4 : K.lookup f4 = some ⟨oc4, od4, .func (PySem.W.fnOf "put_all" "put_all" (defArgs s_put_all) (defBody s_put_all) (defScope s_put_all) .none kV4 dc4 pm4 an4 cd4 ct4), sl4⟩) (c4 : PySem.W.codeIn K cd4 "put_all" = true) (k4 : PySem.W.keepIn K (.ref f4) = true)
    {od5 an5 : Option Addr} {sl5 : Array (Option Value)} {oc5 kV5 dc5 pm5 cd5 ct5 : Value}
    (a5 : PySem.W.nsIn K mainGlobals "cuts_of" = some (some (.ref f5))) (l5 : K.lookup f5 = some ⟨oc5, od5, .func (PySem.W.fnOf "cuts_of" "cuts_of" (defArgs s_cuts_of) (defBody s_cuts_of) (defScope s_cuts_of) .none kV5 dc5 pm5 an5 cd5 ct5), sl5⟩) (c5 : PySem.W.codeIn K cd5 "cuts_of" = true) (k5 : PySem.W.keepIn K (.ref f5) = true)
    {od6 an6 : Option Addr} {sl6 : Array (Option Value)} {oc6 kV6 dc6 pm6 cd6 ct6 : Value}
    (a6 : PySem.W.nsIn K mainGlobals "parts_of" = some (some (.ref f6))) (l6 : K.lookup f6 = some ⟨oc6, od6, .func (PySem.W.fnOf "parts_of" "parts_of" (defArgs s_parts_of) (defBody s_parts_of) (defScope s_parts_of) .none kV6 dc6 pm6 an6 cd6 ct6), sl6⟩) (c6 : PySem.W.codeIn K cd6 "parts_of" = true) (k6 : PySem.W.keepIn K (.ref f6) = true)
    {od7 an7 : Option Addr} {sl7 : Array (Option Value)} {oc7 kV7 dc7 pm7 cd7 ct7 : Value}
    (a7 : PySem.W.nsIn K mainGlobals "is_unbreakable" = some (some (.ref f7))) (l7 : K.lookup f7 = some ⟨oc7, od7, .func (PySem.W.fnOf "is_unbreakable" "is_unbreakable" (defArgs s_is_unbreakable) (defBody s_is_unbreakable) (defScope s_is_unbreakable) .none kV7 dc7 pm7 an7 cd7 ct7), sl7⟩) (c7 : PySem.W.codeIn K cd7 "is_unbreakable" = true) (k7 : PySem.W.keepIn K (.ref f7) = true)
    {od8 an8 : Option Addr} {sl8 : Array (Option Value)} {oc8 kV8 dc8 pm8 cd8 ct8 : Value}
    (a8 : PySem.W.nsIn K mainGlobals "judge_parts" = some (some (.ref f8))) (l8 : K.lookup f8 = some ⟨oc8, od8, .func (PySem.W.fnOf "judge_parts" "judge_parts" (defArgs s_judge_parts) (defBody s_judge_parts) (defScope s_judge_parts) .none kV8 dc8 pm8 an8 cd8 ct8), sl8⟩) (c8 : PySem.W.codeIn K cd8 "judge_parts" = true) (k8 : PySem.W.keepIn K (.ref f8) = true)
    {od9 an9 : Option Addr} {sl9 : Array (Option Value)} {oc9 kV9 dc9 pm9 cd9 ct9 : Value}
    (a9 : PySem.W.nsIn K mainGlobals "_law_source" = some (some (.ref f9))) (l9 : K.lookup f9 = some ⟨oc9, od9, .func (PySem.W.fnOf "_law_source" "_law_source" (defArgs s__law_source) (defBody s__law_source) (defScope s__law_source) .none kV9 dc9 pm9 an9 cd9 ct9), sl9⟩) (c9 : PySem.W.codeIn K cd9 "_law_source" = true) (k9 : PySem.W.keepIn K (.ref f9) = true)
    {od10 an10 : Option Addr} {sl10 : Array (Option Value)} {oc10 kV10 dc10 pm10 cd10 ct10 : Value}
    (a10 : PySem.W.nsIn K mainGlobals "_law_pick" = some (some (.ref f10))) (l10 : K.lookup f10 = some ⟨oc10, od10, .func (PySem.W.fnOf "_law_pick" "_law_pick" (defArgs s__law_pick) (defBody s__law_pick) (defScope s__law_pick) .none kV10 dc10 pm10 an10 cd10 ct10), sl10⟩) (c10 : PySem.W.codeIn K cd10 "_law_pick" = true) (k10 : PySem.W.keepIn K (.ref f10) = true)
    {od11 an11 : Option Addr} {sl11 : Array (Option Value)} {oc11 kV11 dc11 pm11 cd11 ct11 : Value}
    (a11 : PySem.W.nsIn K mainGlobals "_law_of" = some (some (.ref f11))) (l11 : K.lookup f11 = some ⟨oc11, od11, .func (PySem.W.fnOf "_law_of" "_law_of" (defArgs s__law_of) (defBody s__law_of) (defScope s__law_of) .none kV11 dc11 pm11 an11 cd11 ct11), sl11⟩) (c11 : PySem.W.codeIn K cd11 "_law_of" = true) (k11 : PySem.W.keepIn K (.ref f11) = true)
    {od12 an12 : Option Addr} {sl12 : Array (Option Value)} {oc12 kV12 dc12 pm12 cd12 ct12 : Value}
    (a12 : PySem.W.nsIn K mainGlobals "_law_mixed" = some (some (.ref f12))) (l12 : K.lookup f12 = some ⟨oc12, od12, .func (PySem.W.fnOf "_law_mixed" "_law_mixed" (defArgs s__law_mixed) (defBody s__law_mixed) (defScope s__law_mixed) .none kV12 dc12 pm12 an12 cd12 ct12), sl12⟩) (c12 : PySem.W.codeIn K cd12 "_law_mixed" = true) (k12 : PySem.W.keepIn K (.ref f12) = true)
    {od13 an13 : Option Addr} {sl13 : Array (Option Value)} {oc13 kV13 dc13 pm13 cd13 ct13 : Value}
    (a13 : PySem.W.nsIn K mainGlobals "_law_order" = some (some (.ref f13))) (l13 : K.lookup f13 = some ⟨oc13, od13, .func (PySem.W.fnOf "_law_order" "_law_order" (defArgs s__law_order) (defBody s__law_order) (defScope s__law_order) .none kV13 dc13 pm13 an13 cd13 ct13), sl13⟩) (c13 : PySem.W.codeIn K cd13 "_law_order" = true) (k13 : PySem.W.keepIn K (.ref f13) = true)
    {od14 an14 : Option Addr} {sl14 : Array (Option Value)} {oc14 kV14 dc14 pm14 cd14 ct14 : Value}
    (a14 : PySem.W.nsIn K mainGlobals "_law_bent" = some (some (.ref f14))) (l14 : K.lookup f14 = some ⟨oc14, od14, .func (PySem.W.fnOf "_law_bent" "_law_bent" (defArgs s__law_bent) (defBody s__law_bent) (defScope s__law_bent) .none kV14 dc14 pm14 an14 cd14 ct14), sl14⟩) (c14 : PySem.W.codeIn K cd14 "_law_bent" = true) (k14 : PySem.W.keepIn K (.ref f14) = true)
    {od15 an15 : Option Addr} {sl15 : Array (Option Value)} {oc15 kV15 dc15 pm15 cd15 ct15 : Value}
    (a15 : PySem.W.nsIn K mainGlobals "_law_is_order" = some (some (.ref f15))) (l15 : K.lookup f15 = some ⟨oc15, od15, .func (PySem.W.fnOf "_law_is_order" "_law_is_order" (defArgs s__law_is_order) (defBody s__law_is_order) (defScope s__law_is_order) .none kV15 dc15 pm15 an15 cd15 ct15), sl15⟩) (c15 : PySem.W.codeIn K cd15 "_law_is_order" = true) (k15 : PySem.W.keepIn K (.ref f15) = true)
    {od16 an16 : Option Addr} {sl16 : Array (Option Value)} {oc16 kV16 dc16 pm16 cd16 ct16 : Value}
    (a16 : PySem.W.nsIn K mainGlobals "_law_fault" = some (some (.ref f16))) (l16 : K.lookup f16 = some ⟨oc16, od16, .func (PySem.W.fnOf "_law_fault" "_law_fault" (defArgs s__law_fault) (defBody s__law_fault) (defScope s__law_fault) .none kV16 dc16 pm16 an16 cd16 ct16), sl16⟩) (c16 : PySem.W.codeIn K cd16 "_law_fault" = true) (k16 : PySem.W.keepIn K (.ref f16) = true)
    {od17 an17 : Option Addr} {sl17 : Array (Option Value)} {oc17 kV17 dc17 pm17 cd17 ct17 : Value}
    (a17 : PySem.W.nsIn K mainGlobals "law" = some (some (.ref f17))) (l17 : K.lookup f17 = some ⟨oc17, od17, .func (PySem.W.fnOf "law" "law" (defArgs s_law) (defBody s_law) (defScope s_law) .none kV17 dc17 pm17 an17 cd17 ct17), sl17⟩) (c17 : PySem.W.codeIn K cd17 "law" = true) (k17 : PySem.W.keepIn K (.ref f17) = true)
    (z0 : PySem.W.nsIn K mainGlobals "abs" = some none)
    (z1 : PySem.W.nsIn K mainGlobals "all" = some none)
    (z2 : PySem.W.nsIn K mainGlobals "bool" = some none)
    (z3 : PySem.W.nsIn K mainGlobals "enumerate" = some none)
    (z4 : PySem.W.nsIn K mainGlobals "int" = some none)
    (z5 : PySem.W.nsIn K mainGlobals "isinstance" = some none)
    (z6 : PySem.W.nsIn K mainGlobals "len" = some none)
    (z7 : PySem.W.nsIn K mainGlobals "list" = some none)
    (z8 : PySem.W.nsIn K mainGlobals "max" = some none)
    (z9 : PySem.W.nsIn K mainGlobals "range" = some none)
    (z10 : PySem.W.nsIn K mainGlobals "repr" = some none)
    (z11 : PySem.W.nsIn K mainGlobals "sorted" = some none)
    (z12 : PySem.W.nsIn K mainGlobals "tuple" = some none)
    (z13 : PySem.W.nsIn K mainGlobals "zip" = some none)
    : ∃ fd : FuncData, (∀ (s : Shared) (v : Value), BindsTo s fd ⟨[v], []⟩ [("script", v)]) ∧ ∀ base : Heap, K.In base → base.Ns mainGlobals mg → SysAt base → FnD l.prog w K mg base 12 fa fd ["script"] fm_law := by
  have e := hfa.symm.trans (PySem.W.mg_of X G a17)
  cases e
  have z : Zs mg := ⟨PySem.W.mg_none_of X G z0, PySem.W.mg_none_of X G z1, PySem.W.mg_none_of X G z2, PySem.W.mg_none_of X G z3, PySem.W.mg_none_of X G z4, PySem.W.mg_none_of X G z5, PySem.W.mg_none_of X G z6, PySem.W.mg_none_of X G z7, PySem.W.mg_none_of X G z8, PySem.W.mg_none_of X G z9, PySem.W.mg_none_of X G z10, PySem.W.mg_none_of X G z11, PySem.W.mg_none_of X G z12, PySem.W.mg_none_of X G z13⟩
  have F0 := fun_mk (st := s_is_whole) l0 c0 k0
  have b0 := F0.binds (ps := ["value"]) fun _ _ _ _ _ _ us hl => match us, hl with | [_], _ => rfl
  have F1 := fun_mk (st := s_is_order) l1 c1 k1
  have b1 := F1.binds (ps := ["value"]) fun _ _ _ _ _ _ us hl => match us, hl with | [_], _ => rfl
  have F2 := fun_mk (st := s_order_at) l2 c2 k2
  have b2 := F2.binds (ps := ["order", "places"]) fun _ _ _ _ _ _ us hl => match us, hl with | [_, _], _ => rfl
  have F3 := fun_mk (st := s_put_behind) l3 c3 k3
  have b3 := F3.binds (ps := ["s", "t"]) fun _ _ _ _ _ _ us hl => match us, hl with | [_, _], _ => rfl
  have F4 := fun_mk (st := s_put_all) l4 c4 k4
  have b4 := F4.binds (ps := ["orders"]) fun _ _ _ _ _ _ us hl => match us, hl with | [_], _ => rfl
  have F5 := fun_mk (st := s_cuts_of) l5 c5 k5
  have b5 := F5.binds (ps := ["order"]) fun _ _ _ _ _ _ us hl => match us, hl with | [_], _ => rfl
  have F6 := fun_mk (st := s_parts_of) l6 c6 k6
  have b6 := F6.binds (ps := ["order"]) fun _ _ _ _ _ _ us hl => match us, hl with | [_], _ => rfl
  have F7 := fun_mk (st := s_is_unbreakable) l7 c7 k7
  have b7 := F7.binds (ps := ["order"]) fun _ _ _ _ _ _ us hl => match us, hl with | [_], _ => rfl
  have F8 := fun_mk (st := s_judge_parts) l8 c8 k8
  have b8 := F8.binds (ps := ["order", "value"]) fun _ _ _ _ _ _ us hl => match us, hl with | [_, _], _ => rfl
  have F9 := fun_mk (st := s__law_source) l9 c9 k9
  have b9 := F9.binds (ps := ["script"]) fun _ _ _ _ _ _ us hl => match us, hl with | [_], _ => rfl
  have F10 := fun_mk (st := s__law_pick) l10 c10 k10
  have b10 := F10.binds (ps := ["source", "many"]) fun _ _ _ _ _ _ us hl => match us, hl with | [_, _], _ => rfl
  have F11 := fun_mk (st := s__law_of) l11 c11 k11
  have b11 := F11.binds (ps := ["source", "some"]) fun _ _ _ _ _ _ us hl => match us, hl with | [_, _], _ => rfl
  have F12 := fun_mk (st := s__law_mixed) l12 c12 k12
  have b12 := F12.binds (ps := ["source", "things"]) fun _ _ _ _ _ _ us hl => match us, hl with | [_, _], _ => rfl
  have F13 := fun_mk (st := s__law_order) l13 c13 k13
  have b13 := F13.binds (ps := ["source", "n"]) fun _ _ _ _ _ _ us hl => match us, hl with | [_, _], _ => rfl
  have F14 := fun_mk (st := s__law_bent) l14 c14 k14
  have b14 := F14.binds (ps := ["source", "value", "odd"]) fun _ _ _ _ _ _ us hl => match us, hl with | [_, _, _], _ => rfl
  have F15 := fun_mk (st := s__law_is_order) l15 c15 k15
  have b15 := F15.binds (ps := ["value"]) fun _ _ _ _ _ _ us hl => match us, hl with | [_], _ => rfl
  have F16 := fun_mk (st := s__law_fault) l16 c16 k16
  have b16 := F16.binds (ps := ["order", "value"]) fun _ _ _ _ _ _ us hl => match us, hl with | [_, _], _ => rfl
  have F17 := fun_mk (st := s_law) l17 c17 k17
  refine ⟨PySem.W.fnOf "law" "law" (defArgs s_law) (defBody s_law) (defScope s_law) .none kV17 dc17 pm17 an17 cd17 ct17, fun s v => .of_eq rfl, fun base _ _ y => ?_⟩
  have c_is_whole := cal_of (P := l.prog) (w := w) (base := base) F0 (PySem.W.mg_of X G a0) b0 (ok_is_whole z y F0 )
  have c_is_order := cal_of (P := l.prog) (w := w) (base := base) F1 (PySem.W.mg_of X G a1) b1 (ok_is_order z y F1 c_is_whole)
  have c_order_at := cal_of (P := l.prog) (w := w) (base := base) F2 (PySem.W.mg_of X G a2) b2 (ok_order_at z y F2 )
  have c_put_behind := cal_of (P := l.prog) (w := w) (base := base) F3 (PySem.W.mg_of X G a3) b3 (ok_put_behind z y F3 )
  have c_put_all := cal_of (P := l.prog) (w := w) (base := base) F4 (PySem.W.mg_of X G a4) b4 (ok_put_all z y F4 c_put_behind)
  have c_cuts_of := cal_of (P := l.prog) (w := w) (base := base) F5 (PySem.W.mg_of X G a5) b5 (ok_cuts_of z y F5 )
  have c_parts_of := cal_of (P := l.prog) (w := w) (base := base) F6 (PySem.W.mg_of X G a6) b6 (ok_parts_of z y F6 c_order_at c_cuts_of)
  have c_is_unbreakable := cal_of (P := l.prog) (w := w) (base := base) F7 (PySem.W.mg_of X G a7) b7 (ok_is_unbreakable z y F7 c_parts_of)
  have c_judge_parts := cal_of (P := l.prog) (w := w) (base := base) F8 (PySem.W.mg_of X G a8) b8 (ok_judge_parts z y F8 c_put_all c_is_unbreakable c_is_order)
  have c__law_source := cal_of (P := l.prog) (w := w) (base := base) F9 (PySem.W.mg_of X G a9) b9 (ok__law_source z y F9 )
  have c__law_pick := cal_of (P := l.prog) (w := w) (base := base) F10 (PySem.W.mg_of X G a10) b10 (ok__law_pick z y F10 )
  have c__law_of := cal_of (P := l.prog) (w := w) (base := base) F11 (PySem.W.mg_of X G a11) b11 (ok__law_of z y F11 c__law_pick)
  have c__law_mixed := cal_of (P := l.prog) (w := w) (base := base) F12 (PySem.W.mg_of X G a12) b12 (ok__law_mixed z y F12 c__law_pick)
  have c__law_order := cal_of (P := l.prog) (w := w) (base := base) F13 (PySem.W.mg_of X G a13) b13 (ok__law_order z y F13 c__law_mixed)
  have c__law_bent := cal_of (P := l.prog) (w := w) (base := base) F14 (PySem.W.mg_of X G a14) b14 (ok__law_bent z y F14 (PySem.W.mg_of X G a14) b14 c__law_of c__law_pick 8)
  have c__law_is_order := cal_of (P := l.prog) (w := w) (base := base) F15 (PySem.W.mg_of X G a15) b15 (ok__law_is_order z y F15 )
  have c__law_fault := cal_of (P := l.prog) (w := w) (base := base) F16 (PySem.W.mg_of X G a16) b16 (ok__law_fault z y F16 c__law_is_order)
  exact ok_law z y F17 c_judge_parts c__law_bent c__law_fault c__law_mixed c_parts_of c__law_pick c__law_order c__law_source
end Lk56
namespace Lk56
open PySem L2 DL
def isWholeD : PyData → Bool
  | .int _ => true
  | _ => false
theorem is_whole_eq (x : PyData) (g : G) : fm_is_whole [.d x] g = .ok (.d (.bool (isWholeD x))) [] g := by
  cases x <;> rfl
theorem boolsOf_mapf {α : Type} (f : α → Bool) : ∀ ds : List α, boolsOf (ds.map fun x => .bool (f x)) = some (ds.map f)
  | [] => rfl
  | d :: ds => by simp [boolsOf, boolsOf_mapf f ds]
theorem all_mapf {α : Type} (f : α → Bool) (ds : List α) : pyAll [.list (ds.map fun x => .bool (f x))] = some (.d (.bool (ds.all f))) := by
  simp [pyAll, boolsOf_mapf, List.all_map]
theorem sorted_tints (ns : List Int) : pySorted [.tuple (ns.map .int)] = some (.fr (.list ((isort ns).map .int))) := by
  simp [pySorted, sortOk_ints, sortD_ints]
theorem sorted_lints (ns : List Int) : pySorted [.list (ns.map .int)] = some (.fr (.list ((isort ns).map .int))) := by
  simp [pySorted, sortOk_ints, sortD_ints]
theorem intsOf_whole : ∀ {ds : List PyData}, (intsOf ds).isSome = ds.all isWholeD
  | [] => rfl
  | d :: ds => by
    cases d <;> simp [intsOf, isWholeD, ← intsOf_whole (ds := ds)]
/-- an order: each place once -/
def isPerm (ns : List Int) : Bool := decide (isort ns = ints0 ns.length)
def isOrdD : PyData → Bool
  | .tuple ds => match intsOf ds with
    | some ns => isPerm ns
    | none => false
  | _ => false
theorem is_order_c (ds : List PyData) (g : G) (hz : ds.length ≤ 2 ^ 24) : cp_is_order_1 [.d (.tuple ds), .un] g = .ok (.fr (.list (ds.map fun x => .bool (isWholeD x)))) [.d (.tuple ds), .un] g :=
  mComp_all _ rfl rfl (by rw [sizeLine_eq]; omega) fun x hx => ⟨[.d (.tuple ds), .d x], rfl, rfl, bind_eq (mCall_ok (m := mCons (mArg (mVar 1)) mNil) rfl rfl rfl (is_whole_eq x g))⟩
theorem is_order_r (ds : List PyData) (g : G) (hz : ds.length ≤ 2 ^ 24) : rg_is_order_1 [.d (.tuple ds), .un] g = .ok (.fr (.list ((ints0 ds.length).map .int))) [.d (.tuple ds), .un] g := mRgL_nat rfl hz
theorem is_order_f (ds : List PyData) (g : G) (hz : ds.length ≤ 2 ^ 24) (hw : ds.all isWholeD = false) : fm_is_order [.d (.tuple ds)] g = .ok (.d (.bool false)) [] g := by
  have hc := is_order_c ds g hz
  simp only [fm_is_order, bd_is_order, bodyRun, startE, slotArg, M.bind, M.pure, M.opt, mK, mVar, mVarB, mFrz, mBin, mUn, look, mBool, mAndT, mOrT, mNotT, mAndV, mOrV, mNotV, mIf, mNil, mCons, mArg, dataOf, mDisp, mSized, lookAll, mCallB, mIsi, mSl, mPart, mRg1, mRg2, mIntOf, mItems, mRange1, mRange2, evInts, rng1, rng2, mEnum, mZip, mNx, mSeqS, mDrop, mRet, mRetV, mIfS, slotOf, mSet, mAsgP, mPar, mFor, mCall, isArg, RV.ev, List.map_cons, List.map_nil, List.length_cons, List.length_nil, List.replicate, List.cons_append, List.nil_append, List.getElem?_cons_zero, List.getElem?_cons_succ, List.set_cons_zero, List.set_cons_succ, Option.map_some, Option.map_none, Bool.not_true, Bool.not_false, if_true, Bool.false_eq_true, if_false, List.append_nil, Nat.sub_self, Nat.reduceAdd, Nat.reduceSub, Nat.add_zero, Nat.zero_add, hc, all_mapf, isi_int_none, isi_int_bool, isi_int_int, isi_int_str, isi_int_list, isi_int_tuple, isi_int_dict, isi_bool_none, isi_bool_bool, isi_bool_int, isi_bool_str, isi_bool_list, isi_bool_tuple, isi_bool_dict, isi_str_none, isi_str_bool, isi_str_int, isi_str_str, isi_str_list, isi_str_tuple, isi_str_dict, isi_tuple_none, isi_tuple_bool, isi_tuple_int, isi_tuple_str, isi_tuple_list, isi_tuple_tuple, isi_tuple_dict, isi_list_none, isi_list_bool, isi_list_int, isi_list_str, isi_list_list, isi_list_tuple, isi_list_dict, hw]
theorem is_order_t (ns : List Int) (g : G) (hz : ns.length ≤ 2 ^ 24) : fm_is_order [.d (.tuple (ns.map .int))] g = .ok (.d (.bool (isPerm ns))) [] g := by
  have hz' : (ns.map PyData.int).length ≤ 2 ^ 24 := by rw [List.length_map]; exact hz
  have hc := is_order_c (ns.map .int) g hz'
  have hr := is_order_r (ns.map .int) g hz'
  have hw : (ns.map PyData.int).all isWholeD = true := by simp [isWholeD]
  unfold isPerm
  simp only [fm_is_order, bd_is_order, bodyRun, startE, slotArg, M.bind, M.pure, M.opt, mK, mVar, mVarB, mFrz, mBin, mUn, look, mBool, mAndT, mOrT, mNotT, mAndV, mOrV, mNotV, mIf, mNil, mCons, mArg, dataOf, mDisp, mSized, lookAll, mCallB, mIsi, mSl, mPart, mRg1, mRg2, mIntOf, mItems, mRange1, mRange2, evInts, rng1, rng2, mEnum, mZip, mNx, mSeqS, mDrop, mRet, mRetV, mIfS, slotOf, mSet, mAsgP, mPar, mFor, mCall, isArg, RV.ev, List.map_cons, List.map_nil, List.length_cons, List.length_nil, List.replicate, List.cons_append, List.nil_append, List.getElem?_cons_zero, List.getElem?_cons_succ, List.set_cons_zero, List.set_cons_succ, Option.map_some, Option.map_none, Bool.not_true, Bool.not_false, if_true, Bool.false_eq_true, if_false, List.append_nil, Nat.sub_self, Nat.reduceAdd, Nat.reduceSub, Nat.add_zero, Nat.zero_add, hc, all_mapf, isi_int_none, isi_int_bool, isi_int_int, isi_int_str, isi_int_list, isi_int_tuple, isi_int_dict, isi_bool_none, isi_bool_bool, isi_bool_int, isi_bool_str, isi_bool_list, isi_bool_tuple, isi_bool_dict, isi_str_none, isi_str_bool, isi_str_int, isi_str_str, isi_str_list, isi_str_tuple, isi_str_dict, isi_tuple_none, isi_tuple_bool, isi_tuple_int, isi_tuple_str, isi_tuple_list, isi_tuple_tuple, isi_tuple_dict, isi_list_none, isi_list_bool, isi_list_int, isi_list_str, isi_list_list, isi_list_tuple, isi_list_dict, hw, sorted_tints, hr, List.length_map, eq_lints]
theorem is_order_eq (x : PyData) (g : G) (hz : ∀ ds, x = .tuple ds → ds.length ≤ 2 ^ 24) : fm_is_order [.d x] g = .ok (.d (.bool (isOrdD x))) [] g := by
  cases x with
  | tuple ds =>
    have hz := hz ds rfl
    cases hw : ds.all isWholeD with
    | false =>
      have hn : intsOf ds = none := by
        have := intsOf_whole (ds := ds)
        rw [hw] at this
        simpa using this
      rw [is_order_f ds g hz hw]
      simp [isOrdD, hn]
    | true =>
      have hn := intsOf_whole (ds := ds)
      rw [hw] at hn
      obtain ⟨ns, hns⟩ := Option.isSome_iff_exists.mp hn
      have e := intsOf_eq hns
      subst e
      rw [is_order_t ns g (by simpa using hz)]
      simp [isOrdD, hns]
  | _ => simp only [fm_is_order, bd_is_order, bodyRun, startE, slotArg, M.bind, M.pure, M.opt, mK, mVar, mVarB, mFrz, mBin, mUn, look, mBool, mAndT, mOrT, mNotT, mAndV, mOrV, mNotV, mIf, mNil, mCons, mArg, dataOf, mDisp, mSized, lookAll, mCallB, mIsi, mSl, mPart, mRg1, mRg2, mIntOf, mItems, mRange1, mRange2, evInts, rng1, rng2, mEnum, mZip, mNx, mSeqS, mDrop, mRet, mRetV, mIfS, slotOf, mSet, mAsgP, mPar, mFor, mCall, isArg, RV.ev, List.map_cons, List.map_nil, List.length_cons, List.length_nil, List.replicate, List.cons_append, List.nil_append, List.getElem?_cons_zero, List.getElem?_cons_succ, List.set_cons_zero, List.set_cons_succ, Option.map_some, Option.map_none, Bool.not_true, Bool.not_false, if_true, Bool.false_eq_true, if_false, List.append_nil, Nat.sub_self, Nat.reduceAdd, Nat.reduceSub, Nat.add_zero, Nat.zero_add, isi_int_none, isi_int_bool, isi_int_int, isi_int_str, isi_int_list, isi_int_tuple, isi_int_dict, isi_bool_none, isi_bool_bool, isi_bool_int, isi_bool_str, isi_bool_list, isi_bool_tuple, isi_bool_dict, isi_str_none, isi_str_bool, isi_str_int, isi_str_str, isi_str_list, isi_str_tuple, isi_str_dict, isi_tuple_none, isi_tuple_bool, isi_tuple_int, isi_tuple_str, isi_tuple_list, isi_tuple_tuple, isi_tuple_dict, isi_list_none, isi_list_bool, isi_list_int, isi_list_str, isi_list_list, isi_list_tuple, isi_list_dict, isOrdD]
end Lk56
namespace Lk56
open PySem L2 DL
/-- a tuple of ints -/
abbrev ti (ns : List Int) : PyData := .tuple (ns.map .int)
abbrev li (ns : List Int) : PyData := .list (ns.map .int)
def at0 (ns : List Int) (p : Int) : Int := ns.getD p.toNat 0
theorem atI_ints {ns : List Int} {p : Int} (h0 : 0 ≤ p) (h1 : p < ns.length) : atI (ns.map PyData.int) p = some (.int (at0 ns p)) := by
  obtain ⟨k, rfl⟩ := Int.eq_ofNat_of_zero_le h0
  have hk : k < ns.length := by omega
  have e : (ns.map PyData.int)[k]? = some (.int (at0 ns (k : Int))) := by
    simp [at0, List.getElem?_map, hk]
  exact atI_nat e
def ofI (f : Int → Int) : PyData → PyData
  | .int p => .int (f p)
  | _ => .none
theorem map_ofI (f : Int → Int) (ns : List Int) : (ns.map PyData.int).map (ofI f) = (ns.map f).map .int := by
  simp [ofI, Function.comp_def]
def rankI (hs : List Int) (h : Int) : Int := ((isort hs).idxOf h : Nat)
def orderAt (ns ps : List Int) : List Int := (ps.map (at0 ns)).map (rankI (ps.map (at0 ns)))
theorem isort_mem {ns : List Int} {h : Int} : h ∈ isort ns ↔ h ∈ ns := (List.mergeSort_perm _ _).mem_iff
theorem isort_length (ns : List Int) : (isort ns).length = ns.length := (List.mergeSort_perm _ _).length_eq
theorem findIdx_ints (h : Int) : ∀ low : List Int, h ∈ low → (low.map PyData.int).findIdx? (fun z => PyData.eqv z (.int h)) = some (low.idxOf h)
  | [], hm => by simp at hm
  | l :: low, hm => by
    by_cases e : l = h
    · subst e
      simp [List.findIdx?_cons, PyData.eqv]
    · have hm' : h ∈ low := by
        rcases List.mem_cons.mp hm with q | q
        · exact absurd q.symm e
        · exact q
      have eb : (l == h) = false := by simpa using e
      simp [List.findIdx?_cons, PyData.eqv, findIdx_ints h low hm', List.idxOf_cons, eb]
theorem index_ints {hs : List Int} {h : Int} (hm : h ∈ hs) : pyIndex (li (isort hs)) (.int h) = some (.d (.int (rankI hs h))) := by
  have q := findIdx_ints h (isort hs) (isort_mem.mpr hm)
  simp only [pyIndex, shaped_lints, shaped_int, Bool.and_self, if_true, indexD, q, Option.map_some, rankI, oneI]
section
variable (ns ps : List Int) (g : G)
theorem order_at_h (hp : ∀ p ∈ ps, 0 ≤ p ∧ p < ns.length) (hz : ps.length ≤ 2 ^ 24) :
    cp_order_at_2 [.d (ti ns), .d (ti ps), .un, .un, .un, .un] g = .ok (.fr (li (ps.map (at0 ns)))) [.d (ti ns), .d (ti ps), .un, .un, .un, .un] g := by
  have q := mComp_all (p := .nm 3) (vs := [3]) (mi := M.bind (M.bind (mVar 1) mFrz) mItems) (me := M.bind (mBin pyIx (mVarB 0) (mVarB 3)) mFrz) (ofI (at0 ns)) (env := [.d (ti ns), .d (ti ps), .un, .un, .un, .un]) (g := g) (xs := ps.map .int) rfl rfl (by rw [List.length_map, sizeLine_eq]; omega) fun x hx => by
    obtain ⟨p, hm, rfl⟩ := List.mem_map.mp hx
    obtain ⟨h0, h1⟩ := hp p hm
    refine ⟨[.d (ti ns), .d (ti ps), .un, .d (.int p), .un, .un], rfl, rfl, ?_⟩
    simp only [bodyRun, startE, slotArg, M.bind, M.pure, M.opt, mK, mVar, mVarB, mFrz, mBin, mUn, look, mBool, mAndT, mOrT, mNotT, mAndV, mOrV, mNotV, mIf, mNil, mCons, mArg, dataOf, mDisp, mSized, lookAll, mCallB, mIsi, mSl, mPart, mRg1, mRg2, mIntOf, mItems, mRange1, mRange2, evInts, rng1, rng2, mEnum, mZip, mNx, mSeqS, mDrop, mRet, mRetV, mIfS, slotOf, mSet, mAsgP, mPar, mFor, mCall, isArg, RV.ev, List.map_cons, List.map_nil, List.length_cons, List.length_nil, List.replicate, List.cons_append, List.nil_append, List.getElem?_cons_zero, List.getElem?_cons_succ, List.set_cons_zero, List.set_cons_succ, Option.map_some, Option.map_none, Bool.not_true, Bool.not_false, if_true, Bool.false_eq_true, if_false, List.append_nil, Nat.sub_self, Nat.reduceAdd, Nat.reduceSub, Nat.add_zero, Nat.zero_add, pyIx, atI_ints h0 h1, ofI]
  rw [map_ofI] at q
  exact q
theorem order_at_i (hs : List Int) (hz : hs.length ≤ 2 ^ 24) :
    cp_order_at_1 [.d (ti ns), .d (ti ps), .d (li hs), .un, .d (li (isort hs)), .un] g = .ok (.fr (li (hs.map (rankI hs)))) [.d (ti ns), .d (ti ps), .d (li hs), .un, .d (li (isort hs)), .un] g := by
  have q := mComp_all (p := .nm 5) (vs := [5]) (mi := M.bind (M.bind (mVar 2) mFrz) mItems) (me := M.bind (mIdx (mVarB 4) (mVarB 5)) mFrz) (ofI (rankI hs)) (env := [.d (ti ns), .d (ti ps), .d (li hs), .un, .d (li (isort hs)), .un]) (g := g) (xs := hs.map .int) rfl rfl (by rw [List.length_map, sizeLine_eq]; omega) fun x hx => by
    obtain ⟨p, hm, rfl⟩ := List.mem_map.mp hx
    refine ⟨[.d (ti ns), .d (ti ps), .d (li hs), .un, .d (li (isort hs)), .d (.int p)], rfl, rfl, ?_⟩
    simp only [bodyRun, startE, slotArg, M.bind, M.pure, M.opt, mK, mVar, mVarB, mFrz, mBin, mUn, look, mBool, mAndT, mOrT, mNotT, mAndV, mOrV, mNotV, mIf, mNil, mCons, mArg, dataOf, mDisp, mSized, lookAll, mCallB, mIsi, mSl, mPart, mRg1, mRg2, mIntOf, mItems, mRange1, mRange2, evInts, rng1, rng2, mEnum, mZip, mNx, mSeqS, mDrop, mRet, mRetV, mIfS, slotOf, mSet, mAsgP, mPar, mFor, mCall, isArg, RV.ev, List.map_cons, List.map_nil, List.length_cons, List.length_nil, List.replicate, List.cons_append, List.nil_append, List.getElem?_cons_zero, List.getElem?_cons_succ, List.set_cons_zero, List.set_cons_succ, Option.map_some, Option.map_none, Bool.not_true, Bool.not_false, if_true, Bool.false_eq_true, if_false, List.append_nil, Nat.sub_self, Nat.reduceAdd, Nat.reduceSub, Nat.add_zero, Nat.zero_add, mIdx, index_ints hm, ofI]
  rw [map_ofI] at q
  exact q
theorem order_at_eq (hp : ∀ p ∈ ps, 0 ≤ p ∧ p < ns.length) (hz : ps.length ≤ 2 ^ 24) : fm_order_at [.d (ti ns), .d (ti ps)] g = .ok (.d (ti (orderAt ns ps))) [] g := by
  have h1 := order_at_h ns ps g hp hz
  have h2 := order_at_i ns ps g (ps.map (at0 ns)) (by rw [List.length_map]; exact hz)
  simp only [fm_order_at, bd_order_at, bodyRun, startE, slotArg, M.bind, M.pure, M.opt, mK, mVar, mVarB, mFrz, mBin, mUn, look, mBool, mAndT, mOrT, mNotT, mAndV, mOrV, mNotV, mIf, mNil, mCons, mArg, dataOf, mDisp, mSized, lookAll, mCallB, mIsi, mSl, mPart, mRg1, mRg2, mIntOf, mItems, mRange1, mRange2, evInts, rng1, rng2, mEnum, mZip, mNx, mSeqS, mDrop, mRet, mRetV, mIfS, slotOf, mSet, mAsgP, mPar, mFor, mCall, isArg, RV.ev, List.map_cons, List.map_nil, List.length_cons, List.length_nil, List.replicate, List.cons_append, List.nil_append, List.getElem?_cons_zero, List.getElem?_cons_succ, List.set_cons_zero, List.set_cons_succ, Option.map_some, Option.map_none, Bool.not_true, Bool.not_false, if_true, Bool.false_eq_true, if_false, List.append_nil, Nat.sub_self, Nat.reduceAdd, Nat.reduceSub, Nat.add_zero, Nat.zero_add, h1, sorted_lints, h2, pyTupOf, orderAt]
end
/-- the cuts -/
def cutsI (ns : List Int) : List Int := (ints0 (ns.length + 1)).filter fun i => (ns.take i.toNat).all fun h => decide (h < i)
theorem cut_to {ns : List Int} {i : Int} (h0 : 0 ≤ i) : cutD (ns.map PyData.int) none (some i) = (ns.take i.toNat).map .int := by
  obtain ⟨k, rfl⟩ := Int.eq_ofNat_of_zero_le h0
  unfold cutD
  rw [HT.sIx_none, HT.sIx_nat, List.drop_zero, Nat.sub_zero, Int.toNat_natCast, List.length_map, ← List.map_take]
  congr 1
  by_cases h : k ≤ ns.length
  · rw [Nat.min_eq_left h]
  · rw [Nat.min_eq_right (by omega), List.take_of_length_le (by omega), List.take_of_length_le (by omega)]
theorem cut_one (ds : List PyData) : cutD ds (some 1) none = ds.drop 1 := by
  unfold cutD
  rw [show HT.sIx ds.length 0 (some 1) = min 1 ds.length from HT.sIx_nat ds.length 0 1, HT.sIx_none]
  cases ds with
  | nil => rfl
  | cons d ds =>
    rw [show min 1 (d :: ds).length = 1 by rw [List.length_cons]; omega]
    exact List.take_of_length_le (by simp)
theorem mem_ints0 {n : Nat} {i : Int} : i ∈ ints0 n ↔ 0 ≤ i ∧ i < n := by
  unfold ints0
  rw [List.mem_map]
  constructor
  · rintro ⟨k, hk, rfl⟩
    have := List.mem_range.mp hk
    omega
  · rintro ⟨h0, h1⟩
    exact ⟨i.toNat, List.mem_range.mpr (by omega), by omega⟩
def onI (f : Int → Bool) : PyData → Bool
  | .int p => f p
  | _ => false
theorem filter_onI (f : Int → Bool) : ∀ ns : List Int, (ns.map PyData.int).filter (onI f) = (ns.filter f).map .int
  | [] => rfl
  | n :: ns => by
    by_cases h : f n = true <;> simp [List.filter_cons, onI, h, filter_onI f ns]
theorem map_id_ints (ns : List Int) : (ns.map PyData.int).map id = ns.map .int := by simp
section
variable (ns : List Int) (g : G)
theorem cuts_in (hz : ns.length ≤ 1000) (i : Int) (h0 : 0 ≤ i) : cp_cuts_of_1 [.d (ti ns), .d (.int i), .un] g = .ok (.fr (.list ((ns.take i.toNat).map fun h => .bool (decide (h < i))))) [.d (ti ns), .d (.int i), .un] g := by
  have e : (M.bind (M.bind (mSl (mVarB 0) (M.pure none) (M.bind (M.bind (mVar 1) mFrz) mPart)) mFrz) mItems) [.d (ti ns), .d (.int i), .un] g = .ok ((ns.take i.toNat).map .int) [.d (ti ns), .d (.int i), .un] g := by
    simp only [bodyRun, startE, slotArg, M.bind, M.pure, M.opt, mK, mVar, mVarB, mFrz, mBin, mUn, look, mBool, mAndT, mOrT, mNotT, mAndV, mOrV, mNotV, mIf, mNil, mCons, mArg, dataOf, mDisp, mSized, lookAll, mCallB, mIsi, mSl, mPart, mRg1, mRg2, mIntOf, mItems, mRange1, mRange2, evInts, rng1, rng2, mEnum, mZip, mNx, mSeqS, mDrop, mRet, mRetV, mIfS, slotOf, mSet, mAsgP, mPar, mFor, mCall, isArg, RV.ev, List.map_cons, List.map_nil, List.length_cons, List.length_nil, List.replicate, List.cons_append, List.nil_append, List.getElem?_cons_zero, List.getElem?_cons_succ, List.set_cons_zero, List.set_cons_succ, Option.map_some, Option.map_none, Bool.not_true, Bool.not_false, if_true, Bool.false_eq_true, if_false, List.append_nil, Nat.sub_self, Nat.reduceAdd, Nat.reduceSub, Nat.add_zero, Nat.zero_add, pySl, cut_to h0]
  have q := mComp_all (p := .nm 2) (vs := [2]) (mi := (M.bind (M.bind (mSl (mVarB 0) (M.pure none) (M.bind (M.bind (mVar 1) mFrz) mPart)) mFrz) mItems)) (me := M.bind (mBin (pyCmpI fun i j => decide (i < j)) (mVarB 2) (mVarB 1)) mFrz) (fun x => .bool (onI (fun h => decide (h < i)) x)) e rfl (by rw [List.length_map, List.length_take, sizeLine_eq]; omega) fun x hx => by
    obtain ⟨p, hm, rfl⟩ := List.mem_map.mp hx
    refine ⟨[.d (ti ns), .d (.int i), .d (.int p)], rfl, rfl, ?_⟩
    simp only [bodyRun, startE, slotArg, M.bind, M.pure, M.opt, mK, mVar, mVarB, mFrz, mBin, mUn, look, mBool, mAndT, mOrT, mNotT, mAndV, mOrV, mNotV, mIf, mNil, mCons, mArg, dataOf, mDisp, mSized, lookAll, mCallB, mIsi, mSl, mPart, mRg1, mRg2, mIntOf, mItems, mRange1, mRange2, evInts, rng1, rng2, mEnum, mZip, mNx, mSeqS, mDrop, mRet, mRetV, mIfS, slotOf, mSet, mAsgP, mPar, mFor, mCall, isArg, RV.ev, List.map_cons, List.map_nil, List.length_cons, List.length_nil, List.replicate, List.cons_append, List.nil_append, List.getElem?_cons_zero, List.getElem?_cons_succ, List.set_cons_zero, List.set_cons_succ, Option.map_some, Option.map_none, Bool.not_true, Bool.not_false, if_true, Bool.false_eq_true, if_false, List.append_nil, Nat.sub_self, Nat.reduceAdd, Nat.reduceSub, Nat.add_zero, Nat.zero_add, pyCmpI, onI]
  rw [List.map_map] at q
  exact q
theorem all_bools {α : Type} (f : α → Bool) (ds : List α) : pyAll [.list (ds.map fun x => .bool (f x))] = some (.d (.bool (ds.all f))) := all_mapf f ds
theorem cuts_of_eq (hz : ns.length ≤ 1000) : fm_cuts_of [.d (ti ns)] g = .ok (.fr (li (cutsI ns))) [] g := by
  have hr : rngTo 0 ((ns.length : Nat) + 1 : Int) = some ((ints0 (ns.length + 1)).map .int) := by
    have := rngTo_nat (n := ns.length + 1) (by omega)
    simpa using this
  have e : (M.bind (mCons (mBin pyAdd (mCallB DL.pyLen (mCons (mVarB 0) mNil)) (mK (.int 1))) mNil) mRange1) [.d (ti ns), .un, .un] g = .ok ((ints0 (ns.length + 1)).map .int) [.d (ti ns), .un, .un] g := by
    simp only [bodyRun, startE, slotArg, M.bind, M.pure, M.opt, mK, mVar, mVarB, mFrz, mBin, mUn, look, mBool, mAndT, mOrT, mNotT, mAndV, mOrV, mNotV, mIf, mNil, mCons, mArg, dataOf, mDisp, mSized, lookAll, mCallB, mIsi, mSl, mPart, mRg1, mRg2, mIntOf, mItems, mRange1, mRange2, evInts, rng1, rng2, mEnum, mZip, mNx, mSeqS, mDrop, mRet, mRetV, mIfS, slotOf, mSet, mAsgP, mPar, mFor, mCall, isArg, RV.ev, List.map_cons, List.map_nil, List.length_cons, List.length_nil, List.replicate, List.cons_append, List.nil_append, List.getElem?_cons_zero, List.getElem?_cons_succ, List.set_cons_zero, List.set_cons_succ, Option.map_some, Option.map_none, Bool.not_true, Bool.not_false, if_true, Bool.false_eq_true, if_false, List.append_nil, Nat.sub_self, Nat.reduceAdd, Nat.reduceSub, Nat.add_zero, Nat.zero_add, len_tup, List.length_map, add_ints, hr]
  have q : cp_cuts_of_2 [.d (ti ns), .un, .un] g = _ := mComp_ok (p := .nm 1) (vs := [1]) (mt := M.bind (mCallB pyAll (mCons cp_cuts_of_1 mNil)) mBool) (me := M.bind (mVar 1) mFrz) (onI fun i => (ns.take i.toNat).all fun h => decide (h < i)) id e rfl (by rw [List.length_map, ints0_length, sizeLine_eq]; omega) fun x hx => by
    obtain ⟨p, hm, rfl⟩ := List.mem_map.mp hx
    have h0 := (mem_ints0.mp hm).1
    have hc := cuts_in ns g hz p h0
    refine ⟨[.d (ti ns), .d (.int p), .un], rfl, rfl, ?_, fun _ => rfl⟩
    simp only [bodyRun, startE, slotArg, M.bind, M.pure, M.opt, mK, mVar, mVarB, mFrz, mBin, mUn, look, mBool, mAndT, mOrT, mNotT, mAndV, mOrV, mNotV, mIf, mNil, mCons, mArg, dataOf, mDisp, mSized, lookAll, mCallB, mIsi, mSl, mPart, mRg1, mRg2, mIntOf, mItems, mRange1, mRange2, evInts, rng1, rng2, mEnum, mZip, mNx, mSeqS, mDrop, mRet, mRetV, mIfS, slotOf, mSet, mAsgP, mPar, mFor, mCall, isArg, RV.ev, List.map_cons, List.map_nil, List.length_cons, List.length_nil, List.replicate, List.cons_append, List.nil_append, List.getElem?_cons_zero, List.getElem?_cons_succ, List.set_cons_zero, List.set_cons_succ, Option.map_some, Option.map_none, Bool.not_true, Bool.not_false, if_true, Bool.false_eq_true, if_false, List.append_nil, Nat.sub_self, Nat.reduceAdd, Nat.reduceSub, Nat.add_zero, Nat.zero_add, hc, all_bools, onI]
  rw [filter_onI, map_id_ints] at q
  simp only [fm_cuts_of, bd_cuts_of, bodyRun, startE, slotArg, M.bind, M.pure, M.opt, mK, mVar, mVarB, mFrz, mBin, mUn, look, mBool, mAndT, mOrT, mNotT, mAndV, mOrV, mNotV, mIf, mNil, mCons, mArg, dataOf, mDisp, mSized, lookAll, mCallB, mIsi, mSl, mPart, mRg1, mRg2, mIntOf, mItems, mRange1, mRange2, evInts, rng1, rng2, mEnum, mZip, mNx, mSeqS, mDrop, mRet, mRetV, mIfS, slotOf, mSet, mAsgP, mPar, mFor, mCall, isArg, RV.ev, List.map_cons, List.map_nil, List.length_cons, List.length_nil, List.replicate, List.cons_append, List.nil_append, List.getElem?_cons_zero, List.getElem?_cons_succ, List.set_cons_zero, List.set_cons_succ, Option.map_some, Option.map_none, Bool.not_true, Bool.not_false, if_true, Bool.false_eq_true, if_false, List.append_nil, Nat.sub_self, Nat.reduceAdd, Nat.reduceSub, Nat.add_zero, Nat.zero_add, q]
  rfl
end
end Lk56
namespace Lk56
open PySem L2 DL
def irange (i j : Int) : List Int := (List.range (j - i).toNat).map fun k : Nat => i + (k : Int)
theorem rgInts_eq (i j : Int) : rgInts i j = (irange i j).map .int := by simp [rgInts, irange, Function.comp_def]
theorem mem_irange {i j p : Int} (h : p ∈ irange i j) : i ≤ p ∧ p < j := by
  obtain ⟨k, hk, rfl⟩ := List.mem_map.mp h
  have := List.mem_range.mp hk
  omega
theorem irange_len (i j : Int) : (irange i j).length = (j - i).toNat := by simp [irange]
theorem mRgL_gen {f : List PyData → RV} {m : M (Int × Int)} {env env1 : Env'} {g g1 : G} {i j : Int} (h : m env g = .ok (i, j) env1 g1) (hi : 0 ≤ i) (hj : 0 ≤ j) (hi2 : i ≤ 2 ^ 24) (hj2 : j ≤ 2 ^ 24) : mRgL f m env g = .ok (f ((irange i j).map .int)).ev env1 g1 := by
  have ok : rgOk i j = true := by
    unfold rgOk
    simp only [Bool.and_eq_true, decide_eq_true_eq]
    omega
  unfold mRgL
  rw [bind_eq h, rgGo_eq]
  unfold rgTo
  rw [ok, rgInts_eq]
  rfl
def pairI (p : Int × Int) : PyData := .tuple [.int p.1, .int p.2]
theorem zipped_ints : ∀ a b : List Int, zipped (a.map .int) (b.map .int) = (List.zip a b).map pairI
  | [], _ => by simp [zipped]
  | _ :: _, [] => by simp [zipped]
  | x :: a, y :: b => by
    have := zipped_ints a b
    unfold zipped at this ⊢
    simp [this, pairI]
def partsI (ns : List Int) : List (List Int) := (List.zip (cutsI ns) ((cutsI ns).drop 1)).map fun p => orderAt ns (irange p.1 p.2)
def ofP (f : Int → Int → PyData) : PyData → PyData
  | .tuple [.int i, .int j] => f i j
  | _ => .none
theorem map_ofP (f : Int → Int → PyData) (ps : List (Int × Int)) : (ps.map pairI).map (ofP f) = ps.map fun p => f p.1 p.2 := by
  simp [ofP, pairI, Function.comp_def]
theorem cut_mem {ns : List Int} {i : Int} (h : i ∈ cutsI ns) : 0 ≤ i ∧ i ≤ ns.length := by
  have := mem_ints0.mp (List.mem_filter.mp h).1
  omega
theorem cuts_len (ns : List Int) : (cutsI ns).length ≤ ns.length + 1 := by
  have := List.length_filter_le (fun i => (ns.take i.toNat).all fun h => decide (h < i)) (ints0 (ns.length + 1))
  rw [ints0_length] at this
  exact this
section
variable (ns : List Int) (g : G)
theorem parts_c (hz : ns.length ≤ 1000) : cp_parts_of_1 [.d (ti ns), .d (li (cutsI ns)), .un, .un] g = .ok (.fr (.list ((partsI ns).map ti))) [.d (ti ns), .d (li (cutsI ns)), .un, .un] g := by
  have hl := cuts_len ns
  have e : (M.bind (mCons (mArg (mVar 1)) (mCons (mArg (mSl (mVarB 1) (M.bind (M.bind (mK (.int 1)) mFrz) mPart) (M.pure none))) mNil)) mZip) [.d (ti ns), .d (li (cutsI ns)), .un, .un] g = .ok ((List.zip (cutsI ns) ((cutsI ns).drop 1)).map pairI) [.d (ti ns), .d (li (cutsI ns)), .un, .un] g := by
    simp only [bodyRun, startE, slotArg, M.bind, M.pure, M.opt, mK, mVar, mVarB, mFrz, mBin, mUn, look, mBool, mAndT, mOrT, mNotT, mAndV, mOrV, mNotV, mIf, mNil, mCons, mArg, dataOf, mDisp, mSized, lookAll, mCallB, mIsi, mSl, mPart, mRg1, mRg2, mIntOf, mItems, mRange1, mRange2, evInts, rng1, rng2, mEnum, mZip, mNx, mSeqS, mDrop, mRet, mRetV, mIfS, slotOf, mSet, mAsgP, mPar, mFor, mCall, isArg, RV.ev, List.map_cons, List.map_nil, List.length_cons, List.length_nil, List.replicate, List.cons_append, List.nil_append, List.getElem?_cons_zero, List.getElem?_cons_succ, List.set_cons_zero, List.set_cons_succ, Option.map_some, Option.map_none, Bool.not_true, Bool.not_false, if_true, Bool.false_eq_true, if_false, List.append_nil, Nat.sub_self, Nat.reduceAdd, Nat.reduceSub, Nat.add_zero, Nat.zero_add, pySl, cut_one, ← List.map_drop, zipped_ints]
  have q : cp_parts_of_1 [.d (ti ns), .d (li (cutsI ns)), .un, .un] g = _ := mComp_all (p := .tp [.nm 2, .nm 3]) (vs := [2, 3]) (ofP fun i j => ti (orderAt ns (irange i j))) e rfl (by rw [List.length_map, List.length_zip, sizeLine_eq]; omega) fun x hx => by
    obtain ⟨⟨i, j⟩, hm, rfl⟩ := List.mem_map.mp hx
    have hi := cut_mem (List.of_mem_zip hm).1
    have hj := cut_mem (List.mem_of_mem_drop (List.of_mem_zip hm).2)
    have hr : rg_parts_of_1 [.d (ti ns), .d (li (cutsI ns)), .d (.int i), .d (.int j)] g = .ok (.d (ti (irange i j))) [.d (ti ns), .d (li (cutsI ns)), .d (.int i), .d (.int j)] g := mRgL_gen rfl hi.1 hj.1 (by omega) (by omega)
    have ho := order_at_eq ns (irange i j) g (fun p hp => by have := mem_irange hp; omega) (by rw [irange_len]; omega)
    refine ⟨[.d (ti ns), .d (li (cutsI ns)), .d (.int i), .d (.int j)], rfl, rfl, ?_⟩
    simp only [bodyRun, startE, slotArg, M.bind, M.pure, M.opt, mK, mVar, mVarB, mFrz, mBin, mUn, look, mBool, mAndT, mOrT, mNotT, mAndV, mOrV, mNotV, mIf, mNil, mCons, mArg, dataOf, mDisp, mSized, lookAll, mCallB, mIsi, mSl, mPart, mRg1, mRg2, mIntOf, mItems, mRange1, mRange2, evInts, rng1, rng2, mEnum, mZip, mNx, mSeqS, mDrop, mRet, mRetV, mIfS, slotOf, mSet, mAsgP, mPar, mFor, mCall, isArg, RV.ev, List.map_cons, List.map_nil, List.length_cons, List.length_nil, List.replicate, List.cons_append, List.nil_append, List.getElem?_cons_zero, List.getElem?_cons_succ, List.set_cons_zero, List.set_cons_succ, Option.map_some, Option.map_none, Bool.not_true, Bool.not_false, if_true, Bool.false_eq_true, if_false, List.append_nil, Nat.sub_self, Nat.reduceAdd, Nat.reduceSub, Nat.add_zero, Nat.zero_add, hr, ho, List.all_cons, List.all_nil, Bool.and_self, and_self, ofP, pairI]
  rw [map_ofP] at q
  rw [q, partsI, List.map_map]
  rfl
theorem parts_of_eq (hz : ns.length ≤ 1000) : fm_parts_of [.d (ti ns)] g = .ok (.d (.tuple ((partsI ns).map ti))) [] g := by
  have h1 := cuts_of_eq ns g hz
  have h2 := parts_c ns g hz
  simp only [fm_parts_of, bd_parts_of, bodyRun, startE, slotArg, M.bind, M.pure, M.opt, mK, mVar, mVarB, mFrz, mBin, mUn, look, mBool, mAndT, mOrT, mNotT, mAndV, mOrV, mNotV, mIf, mNil, mCons, mArg, dataOf, mDisp, mSized, lookAll, mCallB, mIsi, mSl, mPart, mRg1, mRg2, mIntOf, mItems, mRange1, mRange2, evInts, rng1, rng2, mEnum, mZip, mNx, mSeqS, mDrop, mRet, mRetV, mIfS, slotOf, mSet, mAsgP, mPar, mFor, mCall, isArg, RV.ev, List.map_cons, List.map_nil, List.length_cons, List.length_nil, List.replicate, List.cons_append, List.nil_append, List.getElem?_cons_zero, List.getElem?_cons_succ, List.set_cons_zero, List.set_cons_succ, Option.map_some, Option.map_none, Bool.not_true, Bool.not_false, if_true, Bool.false_eq_true, if_false, List.append_nil, Nat.sub_self, Nat.reduceAdd, Nat.reduceSub, Nat.add_zero, Nat.zero_add, h1, List.all_cons, List.all_nil, Bool.and_self, and_self, h2, pyTupOf]
def unb (ns : List Int) : Bool := decide ((partsI ns).length = 1)
theorem is_unbreakable_eq (hz : ns.length ≤ 1000) : fm_is_unbreakable [.d (ti ns)] g = .ok (.d (.bool (unb ns))) [] g := by
  have h1 := parts_of_eq ns g hz
  have h2 : decide ((((partsI ns).length : Nat) : Int) = 1) = unb ns := by
    unfold unb
    by_cases h : (partsI ns).length = 1
    · simp [h]
    · rw [decide_eq_false h, decide_eq_false (by omega)]
  simp only [fm_is_unbreakable, bd_is_unbreakable, bodyRun, startE, slotArg, M.bind, M.pure, M.opt, mK, mVar, mVarB, mFrz, mBin, mUn, look, mBool, mAndT, mOrT, mNotT, mAndV, mOrV, mNotV, mIf, mNil, mCons, mArg, dataOf, mDisp, mSized, lookAll, mCallB, mIsi, mSl, mPart, mRg1, mRg2, mIntOf, mItems, mRange1, mRange2, evInts, rng1, rng2, mEnum, mZip, mNx, mSeqS, mDrop, mRet, mRetV, mIfS, slotOf, mSet, mAsgP, mPar, mFor, mCall, isArg, RV.ev, List.map_cons, List.map_nil, List.length_cons, List.length_nil, List.replicate, List.cons_append, List.nil_append, List.getElem?_cons_zero, List.getElem?_cons_succ, List.set_cons_zero, List.set_cons_succ, Option.map_some, Option.map_none, Bool.not_true, Bool.not_false, if_true, Bool.false_eq_true, if_false, List.append_nil, Nat.sub_self, Nat.reduceAdd, Nat.reduceSub, Nat.add_zero, Nat.zero_add, h1, List.all_cons, List.all_nil, Bool.and_self, and_self, len_tup, List.length_map, eq_ints, h2]
end
def putI (acc ns : List Int) : List Int := acc ++ ns.map fun h => (acc.length : Int) + h
def putAll (nss : List (List Int)) : List Int := nss.foldl putI []
theorem put_len (acc ns : List Int) : (putI acc ns).length = acc.length + ns.length := by simp [putI]
section
variable (g : G)
theorem put_c (s t : List Int) (hz : t.length ≤ 2 ^ 24) : cp_put_behind_1 [.d (ti s), .d (ti t), .un] g = .ok (.fr (li (t.map fun h => (s.length : Int) + h))) [.d (ti s), .d (ti t), .un] g := by
  have q : cp_put_behind_1 [.d (ti s), .d (ti t), .un] g = _ := mComp_all (p := .nm 2) (vs := [2]) (ofI fun h => (s.length : Int) + h) (xs := t.map .int) (g1 := g) rfl rfl (by rw [List.length_map, sizeLine_eq]; omega) fun x hx => by
    obtain ⟨p, hm, rfl⟩ := List.mem_map.mp hx
    refine ⟨[.d (ti s), .d (ti t), .d (.int p)], rfl, rfl, ?_⟩
    simp only [bodyRun, startE, slotArg, M.bind, M.pure, M.opt, mK, mVar, mVarB, mFrz, mBin, mUn, look, mBool, mAndT, mOrT, mNotT, mAndV, mOrV, mNotV, mIf, mNil, mCons, mArg, dataOf, mDisp, mSized, lookAll, mCallB, mIsi, mSl, mPart, mRg1, mRg2, mIntOf, mItems, mRange1, mRange2, evInts, rng1, rng2, mEnum, mZip, mNx, mSeqS, mDrop, mRet, mRetV, mIfS, slotOf, mSet, mAsgP, mPar, mFor, mCall, isArg, RV.ev, List.map_cons, List.map_nil, List.length_cons, List.length_nil, List.replicate, List.cons_append, List.nil_append, List.getElem?_cons_zero, List.getElem?_cons_succ, List.set_cons_zero, List.set_cons_succ, Option.map_some, Option.map_none, Bool.not_true, Bool.not_false, if_true, Bool.false_eq_true, if_false, List.append_nil, Nat.sub_self, Nat.reduceAdd, Nat.reduceSub, Nat.add_zero, Nat.zero_add, len_tup, List.length_map, add_ints, ofI]
  rw [map_ofI] at q
  exact q
theorem put_behind_eq (s t : List Int) (hz : s.length + t.length ≤ 2 ^ 24) : fm_put_behind [.d (ti s), .d (ti t)] g = .ok (.d (ti (putI s t))) [] g := by
  have h1 := put_c g s t (by omega)
  have h2 : pyAdd (ti s) (ti (t.map fun h => (s.length : Int) + h)) = some (.d (ti (putI s t))) := by
    rw [add_tups (by simp; omega)]
    simp [putI]
  simp only [fm_put_behind, bd_put_behind, bodyRun, startE, slotArg, M.bind, M.pure, M.opt, mK, mVar, mVarB, mFrz, mBin, mUn, look, mBool, mAndT, mOrT, mNotT, mAndV, mOrV, mNotV, mIf, mNil, mCons, mArg, dataOf, mDisp, mSized, lookAll, mCallB, mIsi, mSl, mPart, mRg1, mRg2, mIntOf, mItems, mRange1, mRange2, evInts, rng1, rng2, mEnum, mZip, mNx, mSeqS, mDrop, mRet, mRetV, mIfS, slotOf, mSet, mAsgP, mPar, mFor, mCall, isArg, RV.ev, List.map_cons, List.map_nil, List.length_cons, List.length_nil, List.replicate, List.cons_append, List.nil_append, List.getElem?_cons_zero, List.getElem?_cons_succ, List.set_cons_zero, List.set_cons_succ, Option.map_some, Option.map_none, Bool.not_true, Bool.not_false, if_true, Bool.false_eq_true, if_false, List.append_nil, Nat.sub_self, Nat.reduceAdd, Nat.reduceSub, Nat.add_zero, Nat.zero_add, h1, pyTupOf, h2]
/-- all lengths together -/
def lens (nss : List (List Int)) : Nat := (nss.map List.length).sum
theorem put_fold_len : ∀ (nss : List (List Int)) (acc : List Int), (nss.foldl putI acc).length = acc.length + lens nss
  | [], acc => by simp [lens]
  | n :: r, acc => by
    rw [List.foldl_cons, put_fold_len r, put_len]
    simp [lens]
    omega
theorem put_loop (xs : PyData) : ∀ (nss : List (List Int)) (acc : List Int) (s : Slot), acc.length + lens nss ≤ 2 ^ 24 → ∃ s', forD (.nm 2) lb_put_all_1 (nss.map ti) [.d xs, .d (ti acc), s] g = .ok .nx [.d xs, .d (ti (nss.foldl putI acc)), s'] g
  | [], acc, s, _ => ⟨s, rfl⟩
  | n :: r, acc, s, hz => by
    have hz' : (putI acc n).length + lens r ≤ 2 ^ 24 := by rw [put_len]; simp [lens] at hz ⊢; omega
    have hz2 : acc.length + n.length ≤ 2 ^ 24 := by simp [lens] at hz; omega
    obtain ⟨s', ih⟩ := put_loop xs r (putI acc n) (.d (ti n)) hz'
    refine ⟨s', ?_⟩
    have h1 := put_behind_eq g acc n hz2
    have h2 : lb_put_all_1 [.d xs, .d (ti acc), .d (ti n)] g = .ok .nx [.d xs, .d (ti (putI acc n)), .d (ti n)] g := by
      simp only [lb_put_all_1, bodyRun, startE, slotArg, M.bind, M.pure, M.opt, mK, mVar, mVarB, mFrz, mBin, mUn, look, mBool, mAndT, mOrT, mNotT, mAndV, mOrV, mNotV, mIf, mNil, mCons, mArg, dataOf, mDisp, mSized, lookAll, mCallB, mIsi, mSl, mPart, mRg1, mRg2, mIntOf, mItems, mRange1, mRange2, evInts, rng1, rng2, mEnum, mZip, mNx, mSeqS, mDrop, mRet, mRetV, mIfS, slotOf, mSet, mAsgP, mPar, mFor, mCall, isArg, RV.ev, List.map_cons, List.map_nil, List.length_cons, List.length_nil, List.replicate, List.cons_append, List.nil_append, List.getElem?_cons_zero, List.getElem?_cons_succ, List.set_cons_zero, List.set_cons_succ, Option.map_some, Option.map_none, Bool.not_true, Bool.not_false, if_true, Bool.false_eq_true, if_false, List.append_nil, Nat.sub_self, Nat.reduceAdd, Nat.reduceSub, Nat.add_zero, Nat.zero_add, h1, List.all_cons, List.all_nil, Bool.and_self, and_self]
    rw [List.map_cons]
    unfold forD
    simp only [asg, List.length_cons, List.length_nil, Nat.reduceAdd, Nat.reduceLT, if_true, List.set_cons_zero, List.set_cons_succ]
    rw [bind_eq h2]
    exact ih
theorem put_all_eq (nss : List (List Int)) (hz : lens nss ≤ 2 ^ 24) : fm_put_all [.d (.tuple (nss.map ti))] g = .ok (.d (ti (putAll nss))) [] g := by
  obtain ⟨s', h1⟩ := put_loop g (.tuple (nss.map ti)) nss [] .un (by simpa using hz)
  have h2 : lp_put_all_1 [.d (.tuple (nss.map ti)), .d (ti []), .un] g = .ok .nx [.d (.tuple (nss.map ti)), .d (ti (putAll nss)), s'] g := h1
  simp only [fm_put_all, bd_put_all, bodyRun, startE, slotArg, M.bind, M.pure, M.opt, mK, mVar, mVarB, mFrz, mBin, mUn, look, mBool, mAndT, mOrT, mNotT, mAndV, mOrV, mNotV, mIf, mNil, mCons, mArg, dataOf, mDisp, mSized, lookAll, mCallB, mIsi, mSl, mPart, mRg1, mRg2, mIntOf, mItems, mRange1, mRange2, evInts, rng1, rng2, mEnum, mZip, mNx, mSeqS, mDrop, mRet, mRetV, mIfS, slotOf, mSet, mAsgP, mPar, mFor, mCall, isArg, RV.ev, List.map_cons, List.map_nil, List.length_cons, List.length_nil, List.replicate, List.cons_append, List.nil_append, List.getElem?_cons_zero, List.getElem?_cons_succ, List.set_cons_zero, List.set_cons_succ, Option.map_some, Option.map_none, Bool.not_true, Bool.not_false, if_true, Bool.false_eq_true, if_false, List.append_nil, Nat.sub_self, Nat.reduceAdd, Nat.reduceSub, Nat.add_zero, Nat.zero_add, szd_of (ds := []) (by simp)]
  rw [show (PyData.tuple [] : PyData) = ti [] from rfl, h2]
  rfl
end
end Lk56
namespace Lk56
open PySem L2 DL
/-! ### orders and their cuts -/
theorem isort_sorted (ns : List Int) : (isort ns).Pairwise (· ≤ ·) := by
  have h := List.pairwise_mergeSort (le := fun a b : Int => decide (a ≤ b)) (fun a b c h1 h2 => by simp at *; omega) (fun a b => by simp; omega) ns
  exact h.imp fun h => by simpa using h
/-- ints, each greater than the one ahead, in a room of their number -/
theorem strict_room : ∀ (l : List Int) (a : Int), l.Pairwise (· < ·) → (∀ x ∈ l, a ≤ x ∧ x < a + l.length) → l = (List.range l.length).map fun k : Nat => a + (k : Int)
  | [], a, _, _ => rfl
  | x :: r, a, hp, hm => by
    obtain ⟨hx, hr⟩ := List.pairwise_cons.mp hp
    have ih := strict_room r (a + 1) hr fun y hy => by
      have h1 := hx y hy
      have h2 := hm y (List.mem_cons_of_mem _ hy)
      have h3 := hm x (by simp)
      rw [List.length_cons] at h2
      omega
    have e : x = a := by
      have h3 := hm x (by simp)
      cases r with
      | nil => simp at h3; omega
      | cons y r' =>
        have hy : y = a + 1 := by
          rw [List.length_cons, List.range_succ_eq_map, List.map_cons] at ih
          have := (List.cons.inj ih).1
          simpa using this
        have := hx y (by simp)
        omega
    subst e
    rw [List.length_cons, List.range_succ_eq_map, List.map_cons, List.map_map]
    have z : r = (List.range r.length).map ((fun k : Nat => x + (k : Int)) ∘ Nat.succ) := by
      refine ih.trans (List.map_congr_left fun k _ => ?_)
      simp only [Function.comp_apply, Nat.succ_eq_add_one]
      omega
    rw [← z]
    simp
theorem strict_of {l : List Int} (h : l.Pairwise (· ≤ ·)) (n : l.Nodup) : l.Pairwise (· < ·) := by
  have := h.and n
  exact this.imp fun ⟨h1, h2⟩ => by omega
theorem nodup_ints0 (n : Nat) : (ints0 n).Nodup := by
  unfold ints0
  rw [List.nodup_iff_pairwise_ne, List.pairwise_map]
  exact List.nodup_range.imp fun h => by omega
theorem perm_ints {ns : List Int} (h : isPerm ns = true) : ns.Perm (ints0 ns.length) := by
  have e := of_decide_eq_true h
  rw [← e]
  exact (List.mergeSort_perm _ _).symm
theorem perm_nodup {ns : List Int} (h : isPerm ns = true) : ns.Nodup := (perm_ints h).nodup_iff.mpr (nodup_ints0 _)
/-- k ints below k, no two alike -/
theorem isort_room {l : List Int} (n : l.Nodup) (h : ∀ x ∈ l, 0 ≤ x ∧ x < l.length) : isort l = ints0 l.length := by
  have hl := isort_length l
  have h1 := strict_room (isort l) 0 (strict_of (isort_sorted l) ((List.mergeSort_perm _ _).nodup_iff.mpr n)) fun x hx => by
    have := h x (isort_mem.mp hx)
    rw [hl]
    omega
  rw [h1, hl]
  simp [ints0]
def cuts2 (ns : List Int) : List Int := (ints0 (ns.length + 1)).filter fun k => decide (isort (ns.take k.toNat) = ints0 k.toNat)
theorem cuts_same {ns : List Int} (h : isPerm ns = true) : cuts2 ns = cutsI ns := by
  unfold cuts2 cutsI
  refine List.filter_congr fun k hk => ?_
  obtain ⟨h0, h1⟩ := mem_ints0.mp hk
  obtain ⟨m, rfl⟩ := Int.eq_ofNat_of_zero_le h0
  have hm : m ≤ ns.length := by omega
  rw [Int.toNat_natCast]
  have lt : (ns.take m).length = m := by rw [List.length_take]; omega
  by_cases q : isort (ns.take m) = ints0 m
  · rw [decide_eq_true q, eq_comm, List.all_eq_true]
    intro x hx
    have : x ∈ ints0 m := by rw [← q]; exact isort_mem.mpr hx
    have := mem_ints0.mp this
    exact decide_eq_true this.2
  · rw [decide_eq_false q, eq_comm, Bool.eq_false_iff]
    intro z
    rw [List.all_eq_true] at z
    refine q ?_
    have := isort_room (l := ns.take m) ((perm_nodup h).sublist (List.take_sublist _ _)) fun x hx => by
      rw [lt]
      have h2 := of_decide_eq_true (z x hx)
      have h3 := mem_ints0.mp ((perm_ints h).mem_iff.mp (List.mem_of_mem_take hx))
      exact ⟨h3.1, h2⟩
    rw [lt] at this
    exact this
def unb2 (ns : List Int) : Bool := decide ((cuts2 ns).length = 2)
theorem unb_same {ns : List Int} (h : isPerm ns = true) : unb2 ns = unb ns := by
  unfold unb2 unb partsI
  rw [cuts_same h, List.length_map, List.length_zip, List.length_drop]
  have e : ((cutsI ns).length = 2) = (min (cutsI ns).length ((cutsI ns).length - 1) = 1) := by
    apply propext
    omega
  simp only [e]
end Lk56
namespace Lk56
open PySem L2 DL
def enumL : Nat → List (List Int) → List (Int × List Int)
  | _, [] => []
  | k, n :: r => ((k : Int), n) :: enumL (k + 1) r
def pairT (p : Int × List Int) : PyData := .tuple [.int p.1, ti p.2]
theorem numbered_ti : ∀ (nss : List (List Int)) (k : Nat), DL.numbered k (nss.map ti) = (enumL k nss).map pairT
  | [], _ => rfl
  | n :: r, k => by
    rw [List.map_cons, DL.numbered, numbered_ti r]
    rfl
theorem enumL_len : ∀ (nss : List (List Int)) (k : Nat), (enumL k nss).length = nss.length
  | [], _ => rfl
  | n :: r, k => by rw [enumL, List.length_cons, enumL_len r, List.length_cons]
theorem enumL_mem : ∀ {nss : List (List Int)} {k : Nat} {p : Int × List Int}, p ∈ enumL k nss → p.2 ∈ nss
  | n :: r, k, p, h => by
    rw [enumL] at h
    rcases List.mem_cons.mp h with q | q
    · rw [q]; simp
    · exact List.mem_cons_of_mem _ (enumL_mem q)
/-- the first part that is broken further -/
def badAt (nss : List (List Int)) : Option Int := ((enumL 0 nss).find? fun p => !unb p.2).map (·.1)
def wrongI (nss : List (List Int)) : List Int := ((enumL 0 nss).filter fun p => !unb p.2).map (·.1)
theorem wrong_head (nss : List (List Int)) : (wrongI nss).head? = badAt nss := by
  unfold wrongI badAt
  rw [List.head?_map, List.head?_filter]
def form : PyData := .tuple [.str "form"]
/-- what is told of parts that are orders -/
def told (os : List Int) (nss : List (List Int)) : PyData := match badAt nss with
  | some i => .tuple [.str "breaks", .int i]
  | none => if putAll nss = os then .none else .tuple [.str "made", ti (putAll nss)]
/-- all parts orders -/
theorem ords_of : ∀ {ds : List PyData}, ds.all isOrdD = true → ∃ nss : List (List Int), ds = nss.map ti ∧ ∀ n ∈ nss, isPerm n = true
  | [], _ => ⟨[], rfl, by simp⟩
  | d :: ds, h => by
    rw [List.all_cons, Bool.and_eq_true] at h
    obtain ⟨nss, rfl, hn⟩ := ords_of h.2
    cases d with
    | tuple es =>
      have h1 := h.1
      unfold isOrdD at h1
      cases q : intsOf es with
      | none => simp [q] at h1
      | some ns =>
        have e := intsOf_eq q
        subst e
        simp only [q] at h1
        exact ⟨ns :: nss, rfl, fun n hm => by
          rcases List.mem_cons.mp hm with z | z
          · rw [z]; exact h1
          · exact hn n z⟩
    | _ => simp [isOrdD] at h
/-- sizes that are met with -/
def Sz (x : PyData) : Prop := ∀ ds, x = .tuple ds → ds.length ≤ 1000 ∧ ∀ d ∈ ds, ∀ es, d = .tuple es → es.length ≤ 1000
section
variable (os : List Int) (g : G)
theorem judge_c2 (ds : List PyData) (hz : Sz (.tuple ds)) : cp_judge_parts_2 [.d (ti os), .d (.tuple ds), .un, .un, .un, .un] g = .ok (.fr (.list (ds.map fun x => .bool (isOrdD x)))) [.d (ti os), .d (.tuple ds), .un, .un, .un, .un] g := by
  obtain ⟨h1, h2⟩ := hz ds rfl
  have q : cp_judge_parts_2 [.d (ti os), .d (.tuple ds), .un, .un, .un, .un] g = _ := mComp_all (p := .nm 2) (vs := [2]) (fun x => .bool (isOrdD x)) (xs := ds) (g1 := g) rfl rfl (by rw [sizeLine_eq]; omega) fun x hx => by
    have he := is_order_eq x g fun es e => by have := h2 x hx es e; omega
    refine ⟨[.d (ti os), .d (.tuple ds), .d x, .un, .un, .un], rfl, rfl, ?_⟩
    simp only [bodyRun, startE, slotArg, M.bind, M.pure, M.opt, mK, mVar, mVarB, mFrz, mBin, mUn, look, mBool, mAndT, mOrT, mNotT, mAndV, mOrV, mNotV, mIf, mNil, mCons, mArg, dataOf, mDisp, mSized, lookAll, mCallB, mIsi, mSl, mPart, mRg1, mRg2, mIntOf, mItems, mRange1, mRange2, evInts, rng1, rng2, mEnum, mZip, mNx, mSeqS, mDrop, mRet, mRetV, mIfS, slotOf, mSet, mAsgP, mPar, mFor, mCall, isArg, RV.ev, List.map_cons, List.map_nil, List.length_cons, List.length_nil, List.replicate, List.cons_append, List.nil_append, List.getElem?_cons_zero, List.getElem?_cons_succ, List.set_cons_zero, List.set_cons_succ, Option.map_some, Option.map_none, Bool.not_true, Bool.not_false, if_true, Bool.false_eq_true, if_false, List.append_nil, Nat.sub_self, Nat.reduceAdd, Nat.reduceSub, Nat.add_zero, Nat.zero_add, he, List.all_cons, List.all_nil, Bool.and_self, and_self]
  exact q
theorem judge_c1 (nss : List (List Int)) (h1 : nss.length ≤ 1000) (h2 : ∀ n ∈ nss, n.length ≤ 1000) : cp_judge_parts_1 [.d (ti os), .d (.tuple (nss.map ti)), .un, .un, .un, .un] g = .ok (.fr (li (wrongI nss))) [.d (ti os), .d (.tuple (nss.map ti)), .un, .un, .un, .un] g := by
  have e : (M.bind (mCons (mArg (mVar 1)) mNil) mEnum) [.d (ti os), .d (.tuple (nss.map ti)), .un, .un, .un, .un] g = .ok ((enumL 0 nss).map pairT) [.d (ti os), .d (.tuple (nss.map ti)), .un, .un, .un, .un] g := by
    simp only [bodyRun, startE, slotArg, M.bind, M.pure, M.opt, mK, mVar, mVarB, mFrz, mBin, mUn, look, mBool, mAndT, mOrT, mNotT, mAndV, mOrV, mNotV, mIf, mNil, mCons, mArg, dataOf, mDisp, mSized, lookAll, mCallB, mIsi, mSl, mPart, mRg1, mRg2, mIntOf, mItems, mRange1, mRange2, evInts, rng1, rng2, mEnum, mZip, mNx, mSeqS, mDrop, mRet, mRetV, mIfS, slotOf, mSet, mAsgP, mPar, mFor, mCall, isArg, RV.ev, List.map_cons, List.map_nil, List.length_cons, List.length_nil, List.replicate, List.cons_append, List.nil_append, List.getElem?_cons_zero, List.getElem?_cons_succ, List.set_cons_zero, List.set_cons_succ, Option.map_some, Option.map_none, Bool.not_true, Bool.not_false, if_true, Bool.false_eq_true, if_false, List.append_nil, Nat.sub_self, Nat.reduceAdd, Nat.reduceSub, Nat.add_zero, Nat.zero_add, numbered_ti]
  have q : cp_judge_parts_1 [.d (ti os), .d (.tuple (nss.map ti)), .un, .un, .un, .un] g = _ := mComp_ok (p := .tp [.nm 4, .nm 2]) (vs := [4, 2]) (fun x => match x with
      | .tuple [.int _, .tuple es] => match intsOf es with
        | some ns => !unb ns
        | none => false
      | _ => false) (fun x => match x with
      | .tuple [.int i, _] => .int i
      | _ => .none) e rfl (by rw [List.length_map, enumL_len, sizeLine_eq]; omega) fun x hx => by
    obtain ⟨⟨i, n⟩, hm, rfl⟩ := List.mem_map.mp hx
    have he := is_unbreakable_eq n g (h2 n (enumL_mem hm))
    refine ⟨[.d (ti os), .d (.tuple (nss.map ti)), .d (ti n), .un, .d (.int i), .un], rfl, rfl, ?_, fun _ => rfl⟩
    simp only [bodyRun, startE, slotArg, M.bind, M.pure, M.opt, mK, mVar, mVarB, mFrz, mBin, mUn, look, mBool, mAndT, mOrT, mNotT, mAndV, mOrV, mNotV, mIf, mNil, mCons, mArg, dataOf, mDisp, mSized, lookAll, mCallB, mIsi, mSl, mPart, mRg1, mRg2, mIntOf, mItems, mRange1, mRange2, evInts, rng1, rng2, mEnum, mZip, mNx, mSeqS, mDrop, mRet, mRetV, mIfS, slotOf, mSet, mAsgP, mPar, mFor, mCall, isArg, RV.ev, List.map_cons, List.map_nil, List.length_cons, List.length_nil, List.replicate, List.cons_append, List.nil_append, List.getElem?_cons_zero, List.getElem?_cons_succ, List.set_cons_zero, List.set_cons_succ, Option.map_some, Option.map_none, Bool.not_true, Bool.not_false, if_true, Bool.false_eq_true, if_false, List.append_nil, Nat.sub_self, Nat.reduceAdd, Nat.reduceSub, Nat.add_zero, Nat.zero_add, he, List.all_cons, List.all_nil, Bool.and_self, and_self, pairT, intsOf_map]
  rw [q]
  have gen : ∀ l : List (Int × List Int), ((l.map pairT).filter fun x => match x with
      | .tuple [.int _, .tuple es] => match intsOf es with
        | some ns => !unb ns
        | none => false
      | _ => false).map (fun x => match x with
      | .tuple [.int i, _] => .int i
      | _ => .none) = ((l.filter fun p => !unb p.2).map (·.1)).map PyData.int := by
    intro l
    induction l with
    | nil => rfl
    | cons p l ih =>
      obtain ⟨i, n⟩ := p
      rw [List.map_cons, List.filter_cons, List.filter_cons]
      simp only [pairT, intsOf_map]
      cases unb n with
      | true => simpa [pairT, intsOf_map] using ih
      | false => simpa [pairT, intsOf_map] using ih
  exact congrArg (fun z => R.ok (EV.fr (PyData.list z)) [.d (ti os), .d (.tuple (nss.map ti)), .un, .un, .un, .un] g) (gen (enumL 0 nss))
theorem judge_form (x : PyData) (hx : ∀ ds, x ≠ .tuple ds) : fm_judge_parts [.d (ti os), .d x] g = .ok (.d form) [] g := by
  have hs : szd [PyData.str "form"] = some [.str "form"] := szd_of (by simp)
  cases x with
  | tuple ds => exact absurd rfl (hx ds)
  | _ => simp only [fm_judge_parts, bd_judge_parts, bodyRun, startE, slotArg, M.bind, M.pure, M.opt, mK, mVar, mVarB, mFrz, mBin, mUn, look, mBool, mAndT, mOrT, mNotT, mAndV, mOrV, mNotV, mIf, mNil, mCons, mArg, dataOf, mDisp, mSized, lookAll, mCallB, mIsi, mSl, mPart, mRg1, mRg2, mIntOf, mItems, mRange1, mRange2, evInts, rng1, rng2, mEnum, mZip, mNx, mSeqS, mDrop, mRet, mRetV, mIfS, slotOf, mSet, mAsgP, mPar, mFor, mCall, isArg, RV.ev, List.map_cons, List.map_nil, List.length_cons, List.length_nil, List.replicate, List.cons_append, List.nil_append, List.getElem?_cons_zero, List.getElem?_cons_succ, List.set_cons_zero, List.set_cons_succ, Option.map_some, Option.map_none, Bool.not_true, Bool.not_false, if_true, Bool.false_eq_true, if_false, List.append_nil, Nat.sub_self, Nat.reduceAdd, Nat.reduceSub, Nat.add_zero, Nat.zero_add, isi_int_none, isi_int_bool, isi_int_int, isi_int_str, isi_int_list, isi_int_tuple, isi_int_dict, isi_bool_none, isi_bool_bool, isi_bool_int, isi_bool_str, isi_bool_list, isi_bool_tuple, isi_bool_dict, isi_str_none, isi_str_bool, isi_str_int, isi_str_str, isi_str_list, isi_str_tuple, isi_str_dict, isi_tuple_none, isi_tuple_bool, isi_tuple_int, isi_tuple_str, isi_tuple_list, isi_tuple_tuple, isi_tuple_dict, isi_list_none, isi_list_bool, isi_list_int, isi_list_str, isi_list_list, isi_list_tuple, isi_list_dict, hs, form]
theorem judge_bad (ds : List PyData) (hz : Sz (.tuple ds)) (h : ds.all isOrdD = false) : fm_judge_parts [.d (ti os), .d (.tuple ds)] g = .ok (.d form) [] g := by
  have hs : szd [PyData.str "form"] = some [.str "form"] := szd_of (by simp)
  have hc := judge_c2 os g ds hz
  simp only [fm_judge_parts, bd_judge_parts, bodyRun, startE, slotArg, M.bind, M.pure, M.opt, mK, mVar, mVarB, mFrz, mBin, mUn, look, mBool, mAndT, mOrT, mNotT, mAndV, mOrV, mNotV, mIf, mNil, mCons, mArg, dataOf, mDisp, mSized, lookAll, mCallB, mIsi, mSl, mPart, mRg1, mRg2, mIntOf, mItems, mRange1, mRange2, evInts, rng1, rng2, mEnum, mZip, mNx, mSeqS, mDrop, mRet, mRetV, mIfS, slotOf, mSet, mAsgP, mPar, mFor, mCall, isArg, RV.ev, List.map_cons, List.map_nil, List.length_cons, List.length_nil, List.replicate, List.cons_append, List.nil_append, List.getElem?_cons_zero, List.getElem?_cons_succ, List.set_cons_zero, List.set_cons_succ, Option.map_some, Option.map_none, Bool.not_true, Bool.not_false, if_true, Bool.false_eq_true, if_false, List.append_nil, Nat.sub_self, Nat.reduceAdd, Nat.reduceSub, Nat.add_zero, Nat.zero_add, isi_int_none, isi_int_bool, isi_int_int, isi_int_str, isi_int_list, isi_int_tuple, isi_int_dict, isi_bool_none, isi_bool_bool, isi_bool_int, isi_bool_str, isi_bool_list, isi_bool_tuple, isi_bool_dict, isi_str_none, isi_str_bool, isi_str_int, isi_str_str, isi_str_list, isi_str_tuple, isi_str_dict, isi_tuple_none, isi_tuple_bool, isi_tuple_int, isi_tuple_str, isi_tuple_list, isi_tuple_tuple, isi_tuple_dict, isi_list_none, isi_list_bool, isi_list_int, isi_list_str, isi_list_list, isi_list_tuple, isi_list_dict, hc, all_mapf, h, hs, form]
theorem judge_told (nss : List (List Int)) (hp : ∀ n ∈ nss, isPerm n = true) (h1 : nss.length ≤ 1000) (h2 : ∀ n ∈ nss, n.length ≤ 1000) (h3 : lens nss ≤ 2 ^ 24) : fm_judge_parts [.d (ti os), .d (.tuple (nss.map ti))] g = .ok (.d (told os nss)) [] g := by
  have ho : (nss.map ti).all isOrdD = true := by
    rw [List.all_map, List.all_eq_true]
    intro n hn
    simp [isOrdD, intsOf_map, hp n hn]
  have hz : Sz (.tuple (nss.map ti)) := fun ds e => by
    cases e
    refine ⟨by rw [List.length_map]; exact h1, fun d hd es e => ?_⟩
    obtain ⟨n, hn, rfl⟩ := List.mem_map.mp hd
    cases e
    rw [List.length_map]
    exact h2 n hn
  have hc2 := judge_c2 os g _ hz
  have hc1 := judge_c1 os g nss h1 h2
  have hm := put_all_eq g nss h3
  have hw := wrong_head nss
  have s0 : szd ([] : List PyData) = some [] := szd_of (by simp)
  cases q : wrongI nss with
  | nil =>
    rw [q] at hw hc1
    have hb : badAt nss = none := by rw [← hw]; rfl
    by_cases e : putAll nss = os
    · have hd : decide (putAll nss ≠ os) = false := by simp [e]
      simp only [fm_judge_parts, bd_judge_parts, bodyRun, startE, slotArg, M.bind, M.pure, M.opt, mK, mVar, mVarB, mFrz, mBin, mUn, look, mBool, mAndT, mOrT, mNotT, mAndV, mOrV, mNotV, mIf, mNil, mCons, mArg, dataOf, mDisp, mSized, lookAll, mCallB, mIsi, mSl, mPart, mRg1, mRg2, mIntOf, mItems, mRange1, mRange2, evInts, rng1, rng2, mEnum, mZip, mNx, mSeqS, mDrop, mRet, mRetV, mIfS, slotOf, mSet, mAsgP, mPar, mFor, mCall, isArg, RV.ev, List.map_cons, List.map_nil, List.length_cons, List.length_nil, List.replicate, List.cons_append, List.nil_append, List.getElem?_cons_zero, List.getElem?_cons_succ, List.set_cons_zero, List.set_cons_succ, Option.map_some, Option.map_none, Bool.not_true, Bool.not_false, if_true, Bool.false_eq_true, if_false, List.append_nil, Nat.sub_self, Nat.reduceAdd, Nat.reduceSub, Nat.add_zero, Nat.zero_add, isi_int_none, isi_int_bool, isi_int_int, isi_int_str, isi_int_list, isi_int_tuple, isi_int_dict, isi_bool_none, isi_bool_bool, isi_bool_int, isi_bool_str, isi_bool_list, isi_bool_tuple, isi_bool_dict, isi_str_none, isi_str_bool, isi_str_int, isi_str_str, isi_str_list, isi_str_tuple, isi_str_dict, isi_tuple_none, isi_tuple_bool, isi_tuple_int, isi_tuple_str, isi_tuple_list, isi_tuple_tuple, isi_tuple_dict, isi_list_none, isi_list_bool, isi_list_int, isi_list_str, isi_list_list, isi_list_tuple, isi_list_dict, hc2, all_mapf, ho, hc1, s0, ne_nil, ne_eq, not_true_eq_false, decide_false, hm, List.all_cons, List.all_nil, Bool.and_self, and_self, ne_tints, hd, told, hb, e]
    · have hd : decide (putAll nss ≠ os) = true := by simp [e]
      have s2 : szd [PyData.str "made", ti (putAll nss)] = some [PyData.str "made", ti (putAll nss)] := szd_of (by simp)
      simp only [fm_judge_parts, bd_judge_parts, bodyRun, startE, slotArg, M.bind, M.pure, M.opt, mK, mVar, mVarB, mFrz, mBin, mUn, look, mBool, mAndT, mOrT, mNotT, mAndV, mOrV, mNotV, mIf, mNil, mCons, mArg, dataOf, mDisp, mSized, lookAll, mCallB, mIsi, mSl, mPart, mRg1, mRg2, mIntOf, mItems, mRange1, mRange2, evInts, rng1, rng2, mEnum, mZip, mNx, mSeqS, mDrop, mRet, mRetV, mIfS, slotOf, mSet, mAsgP, mPar, mFor, mCall, isArg, RV.ev, List.map_cons, List.map_nil, List.length_cons, List.length_nil, List.replicate, List.cons_append, List.nil_append, List.getElem?_cons_zero, List.getElem?_cons_succ, List.set_cons_zero, List.set_cons_succ, Option.map_some, Option.map_none, Bool.not_true, Bool.not_false, if_true, Bool.false_eq_true, if_false, List.append_nil, Nat.sub_self, Nat.reduceAdd, Nat.reduceSub, Nat.add_zero, Nat.zero_add, isi_int_none, isi_int_bool, isi_int_int, isi_int_str, isi_int_list, isi_int_tuple, isi_int_dict, isi_bool_none, isi_bool_bool, isi_bool_int, isi_bool_str, isi_bool_list, isi_bool_tuple, isi_bool_dict, isi_str_none, isi_str_bool, isi_str_int, isi_str_str, isi_str_list, isi_str_tuple, isi_str_dict, isi_tuple_none, isi_tuple_bool, isi_tuple_int, isi_tuple_str, isi_tuple_list, isi_tuple_tuple, isi_tuple_dict, isi_list_none, isi_list_bool, isi_list_int, isi_list_str, isi_list_list, isi_list_tuple, isi_list_dict, hc2, all_mapf, ho, hc1, s0, ne_nil, ne_eq, not_true_eq_false, decide_false, hm, List.all_cons, List.all_nil, Bool.and_self, and_self, ne_tints, e, not_false_eq_true, decide_true, s2, told, hb]
  | cons i r =>
    rw [q] at hw hc1
    have hb : badAt nss = some i := by rw [← hw]; rfl
    have s2 : szd [PyData.str "breaks", PyData.int i] = some [PyData.str "breaks", PyData.int i] := szd_of (by simp)
    have hi : pyIx (li (i :: r)) (.int 0) = some (.d (.int i)) := by
      have h0 : atI (PyData.int i :: r.map PyData.int) 0 = some (.int i) := atI_nat (j := 0) rfl
      simp only [li, List.map_cons, pyIx, h0, Option.map_some]
    simp only [fm_judge_parts, bd_judge_parts, bodyRun, startE, slotArg, M.bind, M.pure, M.opt, mK, mVar, mVarB, mFrz, mBin, mUn, look, mBool, mAndT, mOrT, mNotT, mAndV, mOrV, mNotV, mIf, mNil, mCons, mArg, dataOf, mDisp, mSized, lookAll, mCallB, mIsi, mSl, mPart, mRg1, mRg2, mIntOf, mItems, mRange1, mRange2, evInts, rng1, rng2, mEnum, mZip, mNx, mSeqS, mDrop, mRet, mRetV, mIfS, slotOf, mSet, mAsgP, mPar, mFor, mCall, isArg, RV.ev, List.map_cons, List.map_nil, List.length_cons, List.length_nil, List.replicate, List.cons_append, List.nil_append, List.getElem?_cons_zero, List.getElem?_cons_succ, List.set_cons_zero, List.set_cons_succ, Option.map_some, Option.map_none, Bool.not_true, Bool.not_false, if_true, Bool.false_eq_true, if_false, List.append_nil, Nat.sub_self, Nat.reduceAdd, Nat.reduceSub, Nat.add_zero, Nat.zero_add, isi_int_none, isi_int_bool, isi_int_int, isi_int_str, isi_int_list, isi_int_tuple, isi_int_dict, isi_bool_none, isi_bool_bool, isi_bool_int, isi_bool_str, isi_bool_list, isi_bool_tuple, isi_bool_dict, isi_str_none, isi_str_bool, isi_str_int, isi_str_str, isi_str_list, isi_str_tuple, isi_str_dict, isi_tuple_none, isi_tuple_bool, isi_tuple_int, isi_tuple_str, isi_tuple_list, isi_tuple_tuple, isi_tuple_dict, isi_list_none, isi_list_bool, isi_list_int, isi_list_str, isi_list_list, isi_list_tuple, isi_list_dict, hc2, all_mapf, ho, hc1, s0, ne_nil, ne_eq, reduceCtorEq, not_false_eq_true, decide_true, hi, s2, told, hb]
end
end Lk56
namespace Lk56
open PySem L2 DL
theorem wpf_eq {n : Nat} {mb : M Fl} {evs : List EV} {g g1 : G} {a : EV} (h : WpF (bodyRun n mb evs g) fun ev g' => ev = a ∧ g' = g1) : bodyRun n mb evs g = .ok a [] g1 := by
  unfold bodyRun at h ⊢
  cases q : mb (startE n evs) g with
  | bad => rw [q] at h; exact h.elim
  | exc _ _ _ _ => rw [q] at h; exact h.elim
  | ok fl e g' =>
    rw [q] at h
    cases fl with
    | nx => obtain ⟨rfl, rfl⟩ := h; rfl
    | bk => exact h.elim
    | ct => exact h.elim
    | rt v =>
      cases v with
      | bo i => exact h.elim
      | scr m => exact h.elim
      | _ => obtain ⟨rfl, rfl⟩ := h; rfl
theorem filter_nil {α : Type} (f : α → Bool) (l : List α) : decide ((l.filter f) ≠ []) = !(l.all fun x => !f x) := by
  cases q : l.all fun x => !f x with
  | true =>
    have : l.filter f = [] := by
      rw [List.filter_eq_nil_iff]
      intro a ha
      have := List.all_eq_true.mp q a ha
      simpa using this
    simp [this]
  | false =>
    have : l.filter f ≠ [] := by
      intro z
      rw [List.filter_eq_nil_iff] at z
      have : (l.all fun x => !f x) = true := List.all_eq_true.mpr fun a ha => by simpa using z a ha
      rw [this] at q
      cases q
    simp [this]
section
variable (g : G)
theorem lio_c (ds : List PyData) (hz : ds.length ≤ 2 ^ 24) : cp__law_is_order_1 [.d (.tuple ds), .un] g = .ok (.fr (.list (ds.filter fun x => !isWholeD x))) [.d (.tuple ds), .un] g := by
  have q : cp__law_is_order_1 [.d (.tuple ds), .un] g = _ := mComp_ok (p := .nm 1) (vs := [1]) (fun x => !isWholeD x) id (xs := ds) (g1 := g) rfl rfl (by rw [sizeLine_eq]; omega) fun x hx => by
    refine ⟨[.d (.tuple ds), .d x], rfl, rfl, ?_, fun _ => rfl⟩
    cases x <;> simp only [bodyRun, startE, slotArg, M.bind, M.pure, M.opt, mK, mVar, mVarB, mFrz, mBin, mUn, look, mBool, mAndT, mOrT, mNotT, mAndV, mOrV, mNotV, mIf, mNil, mCons, mArg, dataOf, mDisp, mSized, lookAll, mCallB, mIsi, mSl, mPart, mRg1, mRg2, mIntOf, mItems, mRange1, mRange2, evInts, rng1, rng2, mEnum, mZip, mNx, mSeqS, mDrop, mRet, mRetV, mIfS, slotOf, mSet, mAsgP, mPar, mFor, mCall, isArg, RV.ev, List.map_cons, List.map_nil, List.length_cons, List.length_nil, List.replicate, List.cons_append, List.nil_append, List.getElem?_cons_zero, List.getElem?_cons_succ, List.set_cons_zero, List.set_cons_succ, Option.map_some, Option.map_none, Bool.not_true, Bool.not_false, if_true, Bool.false_eq_true, if_false, List.append_nil, Nat.sub_self, Nat.reduceAdd, Nat.reduceSub, Nat.add_zero, Nat.zero_add, isi_int_none, isi_int_bool, isi_int_int, isi_int_str, isi_int_list, isi_int_tuple, isi_int_dict, isi_bool_none, isi_bool_bool, isi_bool_int, isi_bool_str, isi_bool_list, isi_bool_tuple, isi_bool_dict, isi_str_none, isi_str_bool, isi_str_int, isi_str_str, isi_str_list, isi_str_tuple, isi_str_dict, isi_tuple_none, isi_tuple_bool, isi_tuple_int, isi_tuple_str, isi_tuple_list, isi_tuple_tuple, isi_tuple_dict, isi_list_none, isi_list_bool, isi_list_int, isi_list_str, isi_list_list, isi_list_tuple, isi_list_dict, isWholeD]
  rw [List.map_id] at q
  exact q
theorem lio_eq (x : PyData) (hz : ∀ ds, x = .tuple ds → ds.length ≤ 2 ^ 24) : fm__law_is_order [.d x] g = .ok (.d (.bool (isOrdD x))) [] g := by
  have s0 : szd ([] : List PyData) = some [] := szd_of (by simp)
  cases x with
  | tuple ds =>
    have hz := hz ds rfl
    have hc := lio_c g ds hz
    have hw0 := filter_nil (fun x => !isWholeD x) ds
    simp only [Bool.not_not] at hw0
    cases hw : ds.all isWholeD with
    | false =>
      rw [hw] at hw0
      have hn : intsOf ds = none := by
        have := intsOf_whole (ds := ds)
        rw [hw] at this
        simpa using this
      have ho : isOrdD (.tuple ds) = false := by simp [isOrdD, hn]
      simp only [fm__law_is_order, bd__law_is_order, bodyRun, startE, slotArg, M.bind, M.pure, M.opt, mK, mVar, mVarB, mFrz, mBin, mUn, look, mBool, mAndT, mOrT, mNotT, mAndV, mOrV, mNotV, mIf, mNil, mCons, mArg, dataOf, mDisp, mSized, lookAll, mCallB, mIsi, mSl, mPart, mRg1, mRg2, mIntOf, mItems, mRange1, mRange2, evInts, rng1, rng2, mEnum, mZip, mNx, mSeqS, mDrop, mRet, mRetV, mIfS, slotOf, mSet, mAsgP, mPar, mFor, mCall, isArg, RV.ev, List.map_cons, List.map_nil, List.length_cons, List.length_nil, List.replicate, List.cons_append, List.nil_append, List.getElem?_cons_zero, List.getElem?_cons_succ, List.set_cons_zero, List.set_cons_succ, Option.map_some, Option.map_none, Bool.not_true, Bool.not_false, if_true, Bool.false_eq_true, if_false, List.append_nil, Nat.sub_self, Nat.reduceAdd, Nat.reduceSub, Nat.add_zero, Nat.zero_add, isi_int_none, isi_int_bool, isi_int_int, isi_int_str, isi_int_list, isi_int_tuple, isi_int_dict, isi_bool_none, isi_bool_bool, isi_bool_int, isi_bool_str, isi_bool_list, isi_bool_tuple, isi_bool_dict, isi_str_none, isi_str_bool, isi_str_int, isi_str_str, isi_str_list, isi_str_tuple, isi_str_dict, isi_tuple_none, isi_tuple_bool, isi_tuple_int, isi_tuple_str, isi_tuple_list, isi_tuple_tuple, isi_tuple_dict, isi_list_none, isi_list_bool, isi_list_int, isi_list_str, isi_list_list, isi_list_tuple, isi_list_dict, hc, s0, ne_nil, hw0, ho]
    | true =>
      rw [hw] at hw0
      have hn := intsOf_whole (ds := ds)
      rw [hw] at hn
      obtain ⟨ns, hns⟩ := Option.isSome_iff_exists.mp hn
      have e := intsOf_eq hns
      subst e
      have hr : rg__law_is_order_1 [.d (.tuple (ns.map .int)), .un] g = .ok (.fr (.list ((ints0 (ns.map PyData.int).length).map .int))) [.d (.tuple (ns.map .int)), .un] g := mRgL_nat rfl hz
      have ho : isOrdD (.tuple (ns.map .int)) = decide (isort ns = ints0 ns.length) := by simp [isOrdD, hns, isPerm]
      simp only [fm__law_is_order, bd__law_is_order, bodyRun, startE, slotArg, M.bind, M.pure, M.opt, mK, mVar, mVarB, mFrz, mBin, mUn, look, mBool, mAndT, mOrT, mNotT, mAndV, mOrV, mNotV, mIf, mNil, mCons, mArg, dataOf, mDisp, mSized, lookAll, mCallB, mIsi, mSl, mPart, mRg1, mRg2, mIntOf, mItems, mRange1, mRange2, evInts, rng1, rng2, mEnum, mZip, mNx, mSeqS, mDrop, mRet, mRetV, mIfS, slotOf, mSet, mAsgP, mPar, mFor, mCall, isArg, RV.ev, List.map_cons, List.map_nil, List.length_cons, List.length_nil, List.replicate, List.cons_append, List.nil_append, List.getElem?_cons_zero, List.getElem?_cons_succ, List.set_cons_zero, List.set_cons_succ, Option.map_some, Option.map_none, Bool.not_true, Bool.not_false, if_true, Bool.false_eq_true, if_false, List.append_nil, Nat.sub_self, Nat.reduceAdd, Nat.reduceSub, Nat.add_zero, Nat.zero_add, isi_int_none, isi_int_bool, isi_int_int, isi_int_str, isi_int_list, isi_int_tuple, isi_int_dict, isi_bool_none, isi_bool_bool, isi_bool_int, isi_bool_str, isi_bool_list, isi_bool_tuple, isi_bool_dict, isi_str_none, isi_str_bool, isi_str_int, isi_str_str, isi_str_list, isi_str_tuple, isi_str_dict, isi_tuple_none, isi_tuple_bool, isi_tuple_int, isi_tuple_str, isi_tuple_list, isi_tuple_tuple, isi_tuple_dict, isi_list_none, isi_list_bool, isi_list_int, isi_list_str, isi_list_list, isi_list_tuple, isi_list_dict, hc, s0, ne_nil, hw0, sorted_tints, hr, List.length_map, eq_lints, ho]
  | _ => simp only [fm__law_is_order, bd__law_is_order, bodyRun, startE, slotArg, M.bind, M.pure, M.opt, mK, mVar, mVarB, mFrz, mBin, mUn, look, mBool, mAndT, mOrT, mNotT, mAndV, mOrV, mNotV, mIf, mNil, mCons, mArg, dataOf, mDisp, mSized, lookAll, mCallB, mIsi, mSl, mPart, mRg1, mRg2, mIntOf, mItems, mRange1, mRange2, evInts, rng1, rng2, mEnum, mZip, mNx, mSeqS, mDrop, mRet, mRetV, mIfS, slotOf, mSet, mAsgP, mPar, mFor, mCall, isArg, RV.ev, List.map_cons, List.map_nil, List.length_cons, List.length_nil, List.replicate, List.cons_append, List.nil_append, List.getElem?_cons_zero, List.getElem?_cons_succ, List.set_cons_zero, List.set_cons_succ, Option.map_some, Option.map_none, Bool.not_true, Bool.not_false, if_true, Bool.false_eq_true, if_false, List.append_nil, Nat.sub_self, Nat.reduceAdd, Nat.reduceSub, Nat.add_zero, Nat.zero_add, isi_int_none, isi_int_bool, isi_int_int, isi_int_str, isi_int_list, isi_int_tuple, isi_int_dict, isi_bool_none, isi_bool_bool, isi_bool_int, isi_bool_str, isi_bool_list, isi_bool_tuple, isi_bool_dict, isi_str_none, isi_str_bool, isi_str_int, isi_str_str, isi_str_list, isi_str_tuple, isi_str_dict, isi_tuple_none, isi_tuple_bool, isi_tuple_int, isi_tuple_str, isi_tuple_list, isi_tuple_tuple, isi_tuple_dict, isi_list_none, isi_list_bool, isi_list_int, isi_list_str, isi_list_list, isi_list_tuple, isi_list_dict, isOrdD]
variable (os : List Int)
/-- the law's slots within the fault -/
abbrev fe (os : List Int) (x : PyData) (s2 s3 s5 : Slot) : Env' := [.d (ti os), .d x, s2, s3, .un, s5, .un]
theorem fault_c3 (ds : List PyData) (hz : Sz (.tuple ds)) : cp__law_fault_3 (fe os (.tuple ds) .un .un .un) g = .ok (.fr (.list (ds.filter fun x => !isOrdD x))) (fe os (.tuple ds) .un .un .un) g := by
  obtain ⟨h1, h2⟩ := hz ds rfl
  have q : cp__law_fault_3 (fe os (.tuple ds) .un .un .un) g = _ := mComp_ok (p := .nm 2) (vs := [2]) (fun x => !isOrdD x) id (xs := ds) (g1 := g) rfl rfl (by rw [sizeLine_eq]; omega) fun x hx => by
    have he := lio_eq g x fun es e => by have := h2 x hx es e; omega
    refine ⟨fe os (.tuple ds) (.d x) .un .un, rfl, rfl, ?_, fun _ => rfl⟩
    simp only [bodyRun, startE, slotArg, M.bind, M.pure, M.opt, mK, mVar, mVarB, mFrz, mBin, mUn, look, mBool, mAndT, mOrT, mNotT, mAndV, mOrV, mNotV, mIf, mNil, mCons, mArg, dataOf, mDisp, mSized, lookAll, mCallB, mIsi, mSl, mPart, mRg1, mRg2, mIntOf, mItems, mRange1, mRange2, evInts, rng1, rng2, mEnum, mZip, mNx, mSeqS, mDrop, mRet, mRetV, mIfS, slotOf, mSet, mAsgP, mPar, mFor, mCall, isArg, RV.ev, List.map_cons, List.map_nil, List.length_cons, List.length_nil, List.replicate, List.cons_append, List.nil_append, List.getElem?_cons_zero, List.getElem?_cons_succ, List.set_cons_zero, List.set_cons_succ, Option.map_some, Option.map_none, Bool.not_true, Bool.not_false, if_true, Bool.false_eq_true, if_false, List.append_nil, Nat.sub_self, Nat.reduceAdd, Nat.reduceSub, Nat.add_zero, Nat.zero_add, he, List.all_cons, List.all_nil, Bool.and_self, and_self]
  rw [List.map_id] at q
  exact q
theorem fault_c2 (x : PyData) (ns : List Int) (s3 : Slot) (hz : ns.length ≤ 1000) : cp__law_fault_2 (fe os x (.d (ti ns)) s3 .un) g = .ok (.fr (li (cuts2 ns))) (fe os x (.d (ti ns)) s3 .un) g := by
  have hr : rngTo 0 ((ns.length : Nat) + 1 : Int) = some ((ints0 (ns.length + 1)).map .int) := by
    have := rngTo_nat (n := ns.length + 1) (by omega)
    simpa using this
  have e : (M.bind (mCons (mBin pyAdd (mCallB DL.pyLen (mCons (mVarB 2) mNil)) (mK (.int 1))) mNil) mRange1) (fe os x (.d (ti ns)) s3 .un) g = .ok ((ints0 (ns.length + 1)).map .int) (fe os x (.d (ti ns)) s3 .un) g := by
    simp only [bodyRun, startE, slotArg, M.bind, M.pure, M.opt, mK, mVar, mVarB, mFrz, mBin, mUn, look, mBool, mAndT, mOrT, mNotT, mAndV, mOrV, mNotV, mIf, mNil, mCons, mArg, dataOf, mDisp, mSized, lookAll, mCallB, mIsi, mSl, mPart, mRg1, mRg2, mIntOf, mItems, mRange1, mRange2, evInts, rng1, rng2, mEnum, mZip, mNx, mSeqS, mDrop, mRet, mRetV, mIfS, slotOf, mSet, mAsgP, mPar, mFor, mCall, isArg, RV.ev, List.map_cons, List.map_nil, List.length_cons, List.length_nil, List.replicate, List.cons_append, List.nil_append, List.getElem?_cons_zero, List.getElem?_cons_succ, List.set_cons_zero, List.set_cons_succ, Option.map_some, Option.map_none, Bool.not_true, Bool.not_false, if_true, Bool.false_eq_true, if_false, List.append_nil, Nat.sub_self, Nat.reduceAdd, Nat.reduceSub, Nat.add_zero, Nat.zero_add, len_tup, List.length_map, add_ints, hr]
  have q : cp__law_fault_2 (fe os x (.d (ti ns)) s3 .un) g = _ := mComp_ok (p := .nm 4) (vs := [4]) (onI fun k => decide (isort (ns.take k.toNat) = ints0 k.toNat)) id e rfl (by rw [List.length_map, ints0_length, sizeLine_eq]; omega) fun y hy => by
    obtain ⟨k, hm, rfl⟩ := List.mem_map.mp hy
    obtain ⟨h0, h1⟩ := mem_ints0.mp hm
    obtain ⟨m, rfl⟩ := Int.eq_ofNat_of_zero_le h0
    have hr : rg__law_fault_1 [.d (ti os), .d x, .d (ti ns), s3, .d (.int (m : Int)), .un, .un] g = .ok (.fr (.list ((ints0 m).map .int))) [.d (ti os), .d x, .d (ti ns), s3, .d (.int (m : Int)), .un, .un] g := mRgL_nat rfl (by omega)
    have hct : cutD (ns.map PyData.int) none (some (m : Int)) = (ns.take m).map .int := by
      have := cut_to (ns := ns) h0
      simpa using this
    refine ⟨[.d (ti os), .d x, .d (ti ns), s3, .d (.int (m : Int)), .un, .un], rfl, rfl, ?_, fun _ => rfl⟩
    simp only [bodyRun, startE, slotArg, M.bind, M.pure, M.opt, mK, mVar, mVarB, mFrz, mBin, mUn, look, mBool, mAndT, mOrT, mNotT, mAndV, mOrV, mNotV, mIf, mNil, mCons, mArg, dataOf, mDisp, mSized, lookAll, mCallB, mIsi, mSl, mPart, mRg1, mRg2, mIntOf, mItems, mRange1, mRange2, evInts, rng1, rng2, mEnum, mZip, mNx, mSeqS, mDrop, mRet, mRetV, mIfS, slotOf, mSet, mAsgP, mPar, mFor, mCall, isArg, RV.ev, List.map_cons, List.map_nil, List.length_cons, List.length_nil, List.replicate, List.cons_append, List.nil_append, List.getElem?_cons_zero, List.getElem?_cons_succ, List.set_cons_zero, List.set_cons_succ, Option.map_some, Option.map_none, Bool.not_true, Bool.not_false, if_true, Bool.false_eq_true, if_false, List.append_nil, Nat.sub_self, Nat.reduceAdd, Nat.reduceSub, Nat.add_zero, Nat.zero_add, pySl, hct, sorted_tints, hr, eq_lints, onI, Int.toNat_natCast]
  rw [filter_onI, map_id_ints] at q
  exact q
theorem fault_b2 (x : PyData) (i : Int) (ns : List Int) (hz : ns.length ≤ 1000) : lb__law_fault_2 (fe os x (.d (ti ns)) (.d (.int i)) .un) g = .ok (if unb2 ns = true then .nx else .rt (.d (.tuple [.str "breaks", .int i]))) (fe os x (.d (ti ns)) (.d (.int i)) .un) g := by
  have hc := fault_c2 g os x ns (.d (.int i)) hz
  have s2 : szd [PyData.str "breaks", PyData.int i] = some [PyData.str "breaks", PyData.int i] := szd_of (by simp)
  have hd : decide ((((cuts2 ns).length : Nat) : Int) ≠ 2) = !unb2 ns := by
    unfold unb2
    by_cases h : (cuts2 ns).length = 2
    · simp [h]
    · rw [decide_eq_false h, decide_eq_true (by omega)]; rfl
  cases q : unb2 ns with
  | true =>
    rw [q] at hd
    simp only [lb__law_fault_2, bodyRun, startE, slotArg, M.bind, M.pure, M.opt, mK, mVar, mVarB, mFrz, mBin, mUn, look, mBool, mAndT, mOrT, mNotT, mAndV, mOrV, mNotV, mIf, mNil, mCons, mArg, dataOf, mDisp, mSized, lookAll, mCallB, mIsi, mSl, mPart, mRg1, mRg2, mIntOf, mItems, mRange1, mRange2, evInts, rng1, rng2, mEnum, mZip, mNx, mSeqS, mDrop, mRet, mRetV, mIfS, slotOf, mSet, mAsgP, mPar, mFor, mCall, isArg, RV.ev, List.map_cons, List.map_nil, List.length_cons, List.length_nil, List.replicate, List.cons_append, List.nil_append, List.getElem?_cons_zero, List.getElem?_cons_succ, List.set_cons_zero, List.set_cons_succ, Option.map_some, Option.map_none, Bool.not_true, Bool.not_false, if_true, Bool.false_eq_true, if_false, List.append_nil, Nat.sub_self, Nat.reduceAdd, Nat.reduceSub, Nat.add_zero, Nat.zero_add, hc, len_lst, List.length_map, ne_ints, hd]
  | false =>
    rw [q] at hd
    simp only [lb__law_fault_2, bodyRun, startE, slotArg, M.bind, M.pure, M.opt, mK, mVar, mVarB, mFrz, mBin, mUn, look, mBool, mAndT, mOrT, mNotT, mAndV, mOrV, mNotV, mIf, mNil, mCons, mArg, dataOf, mDisp, mSized, lookAll, mCallB, mIsi, mSl, mPart, mRg1, mRg2, mIntOf, mItems, mRange1, mRange2, evInts, rng1, rng2, mEnum, mZip, mNx, mSeqS, mDrop, mRet, mRetV, mIfS, slotOf, mSet, mAsgP, mPar, mFor, mCall, isArg, RV.ev, List.map_cons, List.map_nil, List.length_cons, List.length_nil, List.replicate, List.cons_append, List.nil_append, List.getElem?_cons_zero, List.getElem?_cons_succ, List.set_cons_zero, List.set_cons_succ, Option.map_some, Option.map_none, Bool.not_true, Bool.not_false, if_true, Bool.false_eq_true, if_false, List.append_nil, Nat.sub_self, Nat.reduceAdd, Nat.reduceSub, Nat.add_zero, Nat.zero_add, hc, len_lst, List.length_map, ne_ints, hd, s2]
end
end Lk56
namespace Lk56
open PySem L2 DL
section
variable (g : G) (os : List Int)
theorem asg_pairT (x : PyData) (s2 s3 s5 : Slot) (p : Int × List Int) : asg (.tp [.nm 3, .nm 2]) (pairT p) (fe os x s2 s3 s5) = some (fe os x (.d (ti p.2)) (.d (.int p.1)) s5) := rfl
theorem fault_loop2 (x : PyData) : ∀ (l : List (Int × List Int)) (s2 s3 : Slot), (∀ p ∈ l, p.2.length ≤ 1000 ∧ isPerm p.2 = true) →
    (∃ e, forD (.tp [.nm 3, .nm 2]) lb__law_fault_2 (l.map pairT) (fe os x s2 s3 .un) g = match l.find? (fun p => !unb p.2) with
      | some p => .ok (.rt (.d (.tuple [.str "breaks", .int p.1]))) e g
      | none => .ok .nx e g) ∧ ((l.find? fun p => !unb p.2) = none → ∃ s2' s3', forD (.tp [.nm 3, .nm 2]) lb__law_fault_2 (l.map pairT) (fe os x s2 s3 .un) g = .ok .nx (fe os x s2' s3' .un) g)
  | [], s2, s3, _ => ⟨⟨_, rfl⟩, fun _ => ⟨s2, s3, rfl⟩⟩
  | (i, n) :: l, s2, s3, h => by
    obtain ⟨h1, h2⟩ := h (i, n) (by simp)
    obtain ⟨ih1, ih2⟩ := fault_loop2 x l (.d (ti n)) (.d (.int i)) fun p hp => h p (List.mem_cons_of_mem _ hp)
    have hb := fault_b2 g os x i n h1
    rw [unb_same h2] at hb
    rw [List.map_cons]
    unfold forD
    rw [asg_pairT]
    dsimp only
    cases q : unb n with
    | true =>
      rw [q] at hb
      rw [if_pos rfl] at hb
      rw [bind_eq hb, List.find?_cons_of_neg (by simp [q])]
      exact ⟨ih1, ih2⟩
    | false =>
      rw [q] at hb
      rw [if_neg Bool.false_ne_true] at hb
      rw [bind_eq hb, List.find?_cons_of_pos (by simp [q])]
      exact ⟨⟨_, rfl⟩, fun z => by cases z⟩
/-- the slots while parts are put together -/
abbrev pe (os : List Int) (x : PyData) (s2 s3 : Slot) (acc : List Int) : Env' := [.d (ti os), .d x, s2, s3, .un, .d (ti acc), .un]
theorem fault_c1 (x : PyData) (s3 : Slot) (acc n : List Int) (hz : n.length ≤ 2 ^ 24) : cp__law_fault_1 (pe os x (.d (ti n)) s3 acc) g = .ok (.fr (li (n.map fun h => (acc.length : Int) + h))) (pe os x (.d (ti n)) s3 acc) g := by
  have q : cp__law_fault_1 (pe os x (.d (ti n)) s3 acc) g = _ := mComp_all (p := .nm 6) (vs := [6]) (ofI fun h => (acc.length : Int) + h) (xs := n.map .int) (g1 := g) rfl rfl (by rw [List.length_map, sizeLine_eq]; omega) fun y hy => by
    obtain ⟨p, hm, rfl⟩ := List.mem_map.mp hy
    refine ⟨[.d (ti os), .d x, .d (ti n), s3, .un, .d (ti acc), .d (.int p)], rfl, rfl, ?_⟩
    simp only [bodyRun, startE, slotArg, M.bind, M.pure, M.opt, mK, mVar, mVarB, mFrz, mBin, mUn, look, mBool, mAndT, mOrT, mNotT, mAndV, mOrV, mNotV, mIf, mNil, mCons, mArg, dataOf, mDisp, mSized, lookAll, mCallB, mIsi, mSl, mPart, mRg1, mRg2, mIntOf, mItems, mRange1, mRange2, evInts, rng1, rng2, mEnum, mZip, mNx, mSeqS, mDrop, mRet, mRetV, mIfS, slotOf, mSet, mAsgP, mPar, mFor, mCall, isArg, RV.ev, List.map_cons, List.map_nil, List.length_cons, List.length_nil, List.replicate, List.cons_append, List.nil_append, List.getElem?_cons_zero, List.getElem?_cons_succ, List.set_cons_zero, List.set_cons_succ, Option.map_some, Option.map_none, Bool.not_true, Bool.not_false, if_true, Bool.false_eq_true, if_false, List.append_nil, Nat.sub_self, Nat.reduceAdd, Nat.reduceSub, Nat.add_zero, Nat.zero_add, len_tup, List.length_map, add_ints, ofI, Int.add_comm]
  rw [map_ofI] at q
  exact q
theorem fault_b1 (x : PyData) (s3 : Slot) (acc n : List Int) (hz : acc.length + n.length ≤ 2 ^ 24) : lb__law_fault_1 (pe os x (.d (ti n)) s3 acc) g = .ok .nx (pe os x (.d (ti n)) s3 (putI acc n)) g := by
  have hc := fault_c1 g os x s3 acc n (by omega)
  have h2 : pyAdd (ti acc) (ti (n.map fun h => (acc.length : Int) + h)) = some (.d (ti (putI acc n))) := by
    rw [add_tups (by simp; omega)]
    simp [putI]
  simp only [lb__law_fault_1, bodyRun, startE, slotArg, M.bind, M.pure, M.opt, mK, mVar, mVarB, mFrz, mBin, mUn, look, mBool, mAndT, mOrT, mNotT, mAndV, mOrV, mNotV, mIf, mNil, mCons, mArg, dataOf, mDisp, mSized, lookAll, mCallB, mIsi, mSl, mPart, mRg1, mRg2, mIntOf, mItems, mRange1, mRange2, evInts, rng1, rng2, mEnum, mZip, mNx, mSeqS, mDrop, mRet, mRetV, mIfS, slotOf, mSet, mAsgP, mPar, mFor, mCall, isArg, RV.ev, List.map_cons, List.map_nil, List.length_cons, List.length_nil, List.replicate, List.cons_append, List.nil_append, List.getElem?_cons_zero, List.getElem?_cons_succ, List.set_cons_zero, List.set_cons_succ, Option.map_some, Option.map_none, Bool.not_true, Bool.not_false, if_true, Bool.false_eq_true, if_false, List.append_nil, Nat.sub_self, Nat.reduceAdd, Nat.reduceSub, Nat.add_zero, Nat.zero_add, hc, pyTupOf, h2]
theorem fault_loop1 (x : PyData) (s3 : Slot) : ∀ (nss : List (List Int)) (acc : List Int) (s2 : Slot), acc.length + lens nss ≤ 2 ^ 24 → ∃ s2', forD (.nm 2) lb__law_fault_1 (nss.map ti) (pe os x s2 s3 acc) g = .ok .nx (pe os x s2' s3 (nss.foldl putI acc)) g
  | [], acc, s2, _ => ⟨s2, rfl⟩
  | n :: r, acc, s2, hz => by
    have hz' : (putI acc n).length + lens r ≤ 2 ^ 24 := by rw [put_len]; simp [lens] at hz ⊢; omega
    have hz2 : acc.length + n.length ≤ 2 ^ 24 := by simp [lens] at hz; omega
    obtain ⟨s', ih⟩ := fault_loop1 x s3 r (putI acc n) (.d (ti n)) hz'
    refine ⟨s', ?_⟩
    have h2 := fault_b1 g os x s3 acc n hz2
    have ha : asg (.nm 2) (ti n) (pe os x s2 s3 acc) = some (pe os x (.d (ti n)) s3 acc) := rfl
    rw [List.map_cons]
    unfold forD
    rw [ha]
    dsimp only
    rw [bind_eq h2]
    exact ih
theorem fault_form (x : PyData) (hx : ∀ ds, x ≠ .tuple ds) : fm__law_fault [.d (ti os), .d x] g = .ok (.d form) [] g := by
  have hs : szd [PyData.str "form"] = some [.str "form"] := szd_of (by simp)
  cases x with
  | tuple ds => exact absurd rfl (hx ds)
  | _ => simp only [fm__law_fault, bd__law_fault, bodyRun, startE, slotArg, M.bind, M.pure, M.opt, mK, mVar, mVarB, mFrz, mBin, mUn, look, mBool, mAndT, mOrT, mNotT, mAndV, mOrV, mNotV, mIf, mNil, mCons, mArg, dataOf, mDisp, mSized, lookAll, mCallB, mIsi, mSl, mPart, mRg1, mRg2, mIntOf, mItems, mRange1, mRange2, evInts, rng1, rng2, mEnum, mZip, mNx, mSeqS, mDrop, mRet, mRetV, mIfS, slotOf, mSet, mAsgP, mPar, mFor, mCall, isArg, RV.ev, List.map_cons, List.map_nil, List.length_cons, List.length_nil, List.replicate, List.cons_append, List.nil_append, List.getElem?_cons_zero, List.getElem?_cons_succ, List.set_cons_zero, List.set_cons_succ, Option.map_some, Option.map_none, Bool.not_true, Bool.not_false, if_true, Bool.false_eq_true, if_false, List.append_nil, Nat.sub_self, Nat.reduceAdd, Nat.reduceSub, Nat.add_zero, Nat.zero_add, isi_int_none, isi_int_bool, isi_int_int, isi_int_str, isi_int_list, isi_int_tuple, isi_int_dict, isi_bool_none, isi_bool_bool, isi_bool_int, isi_bool_str, isi_bool_list, isi_bool_tuple, isi_bool_dict, isi_str_none, isi_str_bool, isi_str_int, isi_str_str, isi_str_list, isi_str_tuple, isi_str_dict, isi_tuple_none, isi_tuple_bool, isi_tuple_int, isi_tuple_str, isi_tuple_list, isi_tuple_tuple, isi_tuple_dict, isi_list_none, isi_list_bool, isi_list_int, isi_list_str, isi_list_list, isi_list_tuple, isi_list_dict, hs, form]
theorem fault_bad (ds : List PyData) (hz : Sz (.tuple ds)) (h : ds.all isOrdD = false) : fm__law_fault [.d (ti os), .d (.tuple ds)] g = .ok (.d form) [] g := by
  have hs : szd [PyData.str "form"] = some [.str "form"] := szd_of (by simp)
  have s0 : szd ([] : List PyData) = some [] := szd_of (by simp)
  have hc := fault_c3 g os ds hz
  have hw := filter_nil (fun x => !isOrdD x) ds
  simp only [Bool.not_not] at hw
  rw [h] at hw
  simp only [fm__law_fault, bd__law_fault, bodyRun, startE, slotArg, M.bind, M.pure, M.opt, mK, mVar, mVarB, mFrz, mBin, mUn, look, mBool, mAndT, mOrT, mNotT, mAndV, mOrV, mNotV, mIf, mNil, mCons, mArg, dataOf, mDisp, mSized, lookAll, mCallB, mIsi, mSl, mPart, mRg1, mRg2, mIntOf, mItems, mRange1, mRange2, evInts, rng1, rng2, mEnum, mZip, mNx, mSeqS, mDrop, mRet, mRetV, mIfS, slotOf, mSet, mAsgP, mPar, mFor, mCall, isArg, RV.ev, List.map_cons, List.map_nil, List.length_cons, List.length_nil, List.replicate, List.cons_append, List.nil_append, List.getElem?_cons_zero, List.getElem?_cons_succ, List.set_cons_zero, List.set_cons_succ, Option.map_some, Option.map_none, Bool.not_true, Bool.not_false, if_true, Bool.false_eq_true, if_false, List.append_nil, Nat.sub_self, Nat.reduceAdd, Nat.reduceSub, Nat.add_zero, Nat.zero_add, isi_int_none, isi_int_bool, isi_int_int, isi_int_str, isi_int_list, isi_int_tuple, isi_int_dict, isi_bool_none, isi_bool_bool, isi_bool_int, isi_bool_str, isi_bool_list, isi_bool_tuple, isi_bool_dict, isi_str_none, isi_str_bool, isi_str_int, isi_str_str, isi_str_list, isi_str_tuple, isi_str_dict, isi_tuple_none, isi_tuple_bool, isi_tuple_int, isi_tuple_str, isi_tuple_list, isi_tuple_tuple, isi_tuple_dict, isi_list_none, isi_list_bool, isi_list_int, isi_list_str, isi_list_list, isi_list_tuple, isi_list_dict, hc, s0, ne_nil, hw, hs, form]
theorem fault_told (nss : List (List Int)) (hp : ∀ n ∈ nss, isPerm n = true) (h1 : nss.length ≤ 1000) (h2 : ∀ n ∈ nss, n.length ≤ 1000) (h3 : lens nss ≤ 2 ^ 24) : fm__law_fault [.d (ti os), .d (.tuple (nss.map ti))] g = .ok (.d (told os nss)) [] g := by
  have ho : (nss.map ti).all isOrdD = true := by
    rw [List.all_map, List.all_eq_true]
    intro n hn
    simp [isOrdD, intsOf_map, hp n hn]
  have hz : Sz (.tuple (nss.map ti)) := fun ds e => by
    cases e
    refine ⟨by rw [List.length_map]; exact h1, fun d hd es e => ?_⟩
    obtain ⟨n, hn, rfl⟩ := List.mem_map.mp hd
    cases e
    rw [List.length_map]
    exact h2 n hn
  have s0 : szd ([] : List PyData) = some [] := szd_of (by simp)
  have hc := fault_c3 g os _ hz
  have hw := filter_nil (fun x => !isOrdD x) (nss.map ti)
  simp only [Bool.not_not] at hw
  rw [ho] at hw
  have hl : ∀ p ∈ enumL 0 nss, p.2.length ≤ 1000 ∧ isPerm p.2 = true := fun p hp' => ⟨h2 _ (enumL_mem hp'), hp _ (enumL_mem hp')⟩
  obtain ⟨⟨e, L1⟩, L2⟩ := fault_loop2 g os (.tuple (nss.map ti)) (enumL 0 nss) .un .un hl
  have e2 : (M.bind (mCons (mArg (mVar 1)) mNil) mEnum) (fe os (.tuple (nss.map ti)) .un .un .un) g = .ok ((enumL 0 nss).map pairT) (fe os (.tuple (nss.map ti)) .un .un .un) g := by
    simp only [bodyRun, startE, slotArg, M.bind, M.pure, M.opt, mK, mVar, mVarB, mFrz, mBin, mUn, look, mBool, mAndT, mOrT, mNotT, mAndV, mOrV, mNotV, mIf, mNil, mCons, mArg, dataOf, mDisp, mSized, lookAll, mCallB, mIsi, mSl, mPart, mRg1, mRg2, mIntOf, mItems, mRange1, mRange2, evInts, rng1, rng2, mEnum, mZip, mNx, mSeqS, mDrop, mRet, mRetV, mIfS, slotOf, mSet, mAsgP, mPar, mFor, mCall, isArg, RV.ev, List.map_cons, List.map_nil, List.length_cons, List.length_nil, List.replicate, List.cons_append, List.nil_append, List.getElem?_cons_zero, List.getElem?_cons_succ, List.set_cons_zero, List.set_cons_succ, Option.map_some, Option.map_none, Bool.not_true, Bool.not_false, if_true, Bool.false_eq_true, if_false, List.append_nil, Nat.sub_self, Nat.reduceAdd, Nat.reduceSub, Nat.add_zero, Nat.zero_add, numbered_ti]
  have lp : lp__law_fault_2 (fe os (.tuple (nss.map ti)) .un .un .un) g = forD (.tp [.nm 3, .nm 2]) lb__law_fault_2 ((enumL 0 nss).map pairT) (fe os (.tuple (nss.map ti)) .un .un .un) g := bind_eq e2
  cases q : (enumL 0 nss).find? fun p => !unb p.2 with
  | some p =>
    rw [q] at L1
    rw [L1] at lp
    have hb : badAt nss = some p.1 := by unfold badAt; rw [q]; rfl
    simp only [fm__law_fault, bd__law_fault, bodyRun, startE, slotArg, M.bind, M.pure, M.opt, mK, mVar, mVarB, mFrz, mBin, mUn, look, mBool, mAndT, mOrT, mNotT, mAndV, mOrV, mNotV, mIf, mNil, mCons, mArg, dataOf, mDisp, mSized, lookAll, mCallB, mIsi, mSl, mPart, mRg1, mRg2, mIntOf, mItems, mRange1, mRange2, evInts, rng1, rng2, mEnum, mZip, mNx, mSeqS, mDrop, mRet, mRetV, mIfS, slotOf, mSet, mAsgP, mPar, mFor, mCall, isArg, RV.ev, List.map_cons, List.map_nil, List.length_cons, List.length_nil, List.replicate, List.cons_append, List.nil_append, List.getElem?_cons_zero, List.getElem?_cons_succ, List.set_cons_zero, List.set_cons_succ, Option.map_some, Option.map_none, Bool.not_true, Bool.not_false, if_true, Bool.false_eq_true, if_false, List.append_nil, Nat.sub_self, Nat.reduceAdd, Nat.reduceSub, Nat.add_zero, Nat.zero_add, isi_int_none, isi_int_bool, isi_int_int, isi_int_str, isi_int_list, isi_int_tuple, isi_int_dict, isi_bool_none, isi_bool_bool, isi_bool_int, isi_bool_str, isi_bool_list, isi_bool_tuple, isi_bool_dict, isi_str_none, isi_str_bool, isi_str_int, isi_str_str, isi_str_list, isi_str_tuple, isi_str_dict, isi_tuple_none, isi_tuple_bool, isi_tuple_int, isi_tuple_str, isi_tuple_list, isi_tuple_tuple, isi_tuple_dict, isi_list_none, isi_list_bool, isi_list_int, isi_list_str, isi_list_list, isi_list_tuple, isi_list_dict, hc, s0, ne_nil, hw, lp, told, hb]
  | none =>
    obtain ⟨s2', s3', L3⟩ := L2 q
    rw [L3] at lp
    have hb : badAt nss = none := by unfold badAt; rw [q]; rfl
    obtain ⟨s2'', L4⟩ := fault_loop1 g os (.tuple (nss.map ti)) s3' nss [] s2' (by simpa using h3)
    have lp1 : lp__law_fault_1 [.d (ti os), .d (.tuple (nss.map ti)), s2', s3', .un, .d (.tuple []), .un] g = .ok .nx (pe os (.tuple (nss.map ti)) s2'' s3' (putAll nss)) g := L4
    by_cases e : putAll nss = os
    · have hd : decide (os ≠ os) = false := by simp
      simp only [fm__law_fault, bd__law_fault, bodyRun, startE, slotArg, M.bind, M.pure, M.opt, mK, mVar, mVarB, mFrz, mBin, mUn, look, mBool, mAndT, mOrT, mNotT, mAndV, mOrV, mNotV, mIf, mNil, mCons, mArg, dataOf, mDisp, mSized, lookAll, mCallB, mIsi, mSl, mPart, mRg1, mRg2, mIntOf, mItems, mRange1, mRange2, evInts, rng1, rng2, mEnum, mZip, mNx, mSeqS, mDrop, mRet, mRetV, mIfS, slotOf, mSet, mAsgP, mPar, mFor, mCall, isArg, RV.ev, List.map_cons, List.map_nil, List.length_cons, List.length_nil, List.replicate, List.cons_append, List.nil_append, List.getElem?_cons_zero, List.getElem?_cons_succ, List.set_cons_zero, List.set_cons_succ, Option.map_some, Option.map_none, Bool.not_true, Bool.not_false, if_true, Bool.false_eq_true, if_false, List.append_nil, Nat.sub_self, Nat.reduceAdd, Nat.reduceSub, Nat.add_zero, Nat.zero_add, isi_int_none, isi_int_bool, isi_int_int, isi_int_str, isi_int_list, isi_int_tuple, isi_int_dict, isi_bool_none, isi_bool_bool, isi_bool_int, isi_bool_str, isi_bool_list, isi_bool_tuple, isi_bool_dict, isi_str_none, isi_str_bool, isi_str_int, isi_str_str, isi_str_list, isi_str_tuple, isi_str_dict, isi_tuple_none, isi_tuple_bool, isi_tuple_int, isi_tuple_str, isi_tuple_list, isi_tuple_tuple, isi_tuple_dict, isi_list_none, isi_list_bool, isi_list_int, isi_list_str, isi_list_list, isi_list_tuple, isi_list_dict, hc, s0, ne_nil, hw, lp, lp1, ne_tints, hd, told, hb, e]
    · have hd : decide (putAll nss ≠ os) = true := by simp [e]
      have s2 : szd [PyData.str "made", ti (putAll nss)] = some [PyData.str "made", ti (putAll nss)] := szd_of (by simp)
      simp only [fm__law_fault, bd__law_fault, bodyRun, startE, slotArg, M.bind, M.pure, M.opt, mK, mVar, mVarB, mFrz, mBin, mUn, look, mBool, mAndT, mOrT, mNotT, mAndV, mOrV, mNotV, mIf, mNil, mCons, mArg, dataOf, mDisp, mSized, lookAll, mCallB, mIsi, mSl, mPart, mRg1, mRg2, mIntOf, mItems, mRange1, mRange2, evInts, rng1, rng2, mEnum, mZip, mNx, mSeqS, mDrop, mRet, mRetV, mIfS, slotOf, mSet, mAsgP, mPar, mFor, mCall, isArg, RV.ev, List.map_cons, List.map_nil, List.length_cons, List.length_nil, List.replicate, List.cons_append, List.nil_append, List.getElem?_cons_zero, List.getElem?_cons_succ, List.set_cons_zero, List.set_cons_succ, Option.map_some, Option.map_none, Bool.not_true, Bool.not_false, if_true, Bool.false_eq_true, if_false, List.append_nil, Nat.sub_self, Nat.reduceAdd, Nat.reduceSub, Nat.add_zero, Nat.zero_add, isi_int_none, isi_int_bool, isi_int_int, isi_int_str, isi_int_list, isi_int_tuple, isi_int_dict, isi_bool_none, isi_bool_bool, isi_bool_int, isi_bool_str, isi_bool_list, isi_bool_tuple, isi_bool_dict, isi_str_none, isi_str_bool, isi_str_int, isi_str_str, isi_str_list, isi_str_tuple, isi_str_dict, isi_tuple_none, isi_tuple_bool, isi_tuple_int, isi_tuple_str, isi_tuple_list, isi_tuple_tuple, isi_tuple_dict, isi_list_none, isi_list_bool, isi_list_int, isi_list_str, isi_list_list, isi_list_tuple, isi_list_dict, hc, s0, ne_nil, hw, lp, lp1, ne_tints, hd, s2, told, hb, e]
/-- THE POINT: the program and the law tell the same of anything -/
theorem one_word (x : PyData) (hz : Sz x) (h3 : ∀ nss : List (List Int), x = .tuple (nss.map ti) → lens nss ≤ 2 ^ 24) : ∃ w, fm_judge_parts [.d (ti os), .d x] g = .ok (.d w) [] g ∧ fm__law_fault [.d (ti os), .d x] g = .ok (.d w) [] g ∧ (w = form ∨ ∃ nss : List (List Int), x = .tuple (nss.map ti) ∧ (∀ n ∈ nss, isPerm n = true) ∧ w = told os nss) := by
  by_cases hx : ∃ ds, x = .tuple ds
  · obtain ⟨ds, rfl⟩ := hx
    cases h : ds.all isOrdD with
    | false => exact ⟨form, judge_bad os g ds hz h, fault_bad g os ds hz h, .inl rfl⟩
    | true =>
      obtain ⟨nss, rfl, hp⟩ := ords_of h
      obtain ⟨z1, z2⟩ := hz _ rfl
      have h1 : nss.length ≤ 1000 := by rw [List.length_map] at z1; exact z1
      have h2 : ∀ n ∈ nss, n.length ≤ 1000 := fun n hn => by
        have := z2 (ti n) (List.mem_map.mpr ⟨n, hn, rfl⟩) _ rfl
        rw [List.length_map] at this
        exact this
      exact ⟨told os nss, judge_told os g nss hp h1 h2 (h3 nss rfl), fault_told g os nss hp h1 h2 (h3 nss rfl), .inr ⟨nss, rfl, hp, rfl⟩⟩
  · have hx' : ∀ ds, x ≠ .tuple ds := fun ds e => hx ⟨ds, e⟩
    exact ⟨form, judge_form os g x hx', fault_form g os x hx', .inl rfl⟩
end
end Lk56
namespace Lk56
open PySem L2 DL
/-- a source that draws on -/
def Live (g : G) : Prop := ∃ s : Src, g = some s ∧ s.cells.length ≤ 63
theorem wh_unfold (k : Nat) (t : M Bool) (b : M Fl) : whileD t b (k + 1) = t.bind fun c => if c then b.bind fun fl => match fl with
      | .nx => whileD t b k
      | .ct => whileD t b k
      | .bk => mNx
      | .rt v => M.pure (.rt v)
    else mNx := rfl
abbrev pe0 (n : Int) : Env' := [.src false, .d (.int n), .un, .un]
def pickT : M Bool := (mAndT (M.bind (mBin (pyCmpI fun i j => decide (j < i)) (mVarB 1) (mK (.int 1))) mBool) (mAndT (M.bind (mBin (pyCmpI fun i j => decide (i < j)) (mSrcGet "left" (mVarB 0)) (mK (.int 2))) mBool) (M.bind (mBin (pyCmpI fun i j => decide (j < i)) (mSrcLen (mSrcGet "cells" (mVarB 0))) (mK (.int 0))) mBool)))
def pickB : M Fl := (mSrcPut "left" (mSrcPop (mSrcGet "cells" (mVarB 0))) (mVarB 0))
theorem pickT_eq (n : Int) (s : Src) : pickT (pe0 n) (some s) = .ok (decide (1 < n) && (decide (s.left < 2) && decide (0 < s.cells.length))) (pe0 n) (some s) := by
  have hc : decide ((0 : Int) < (s.cells.length : Nat)) = decide (0 < s.cells.length) := by
    by_cases h : 0 < s.cells.length
    · rw [decide_eq_true h, decide_eq_true (by omega)]
    · rw [decide_eq_false h, decide_eq_false (by omega)]
  cases h1 : decide (1 < n) <;> cases h2 : decide (s.left < 2) <;> simp only [pickT, bodyRun, startE, slotArg, M.bind, M.pure, M.opt, mK, mVar, mVarB, mFrz, mBin, mUn, look, mBool, mAndT, mOrT, mNotT, mAndV, mOrV, mNotV, mIf, mNil, mCons, mArg, dataOf, mDisp, mSized, lookAll, mCallB, mIsi, mSl, mPart, mRg1, mRg2, mIntOf, mItems, mRange1, mRange2, evInts, rng1, rng2, mEnum, mZip, mNx, mSeqS, mDrop, mRet, mRetV, mIfS, slotOf, mSet, mAsgP, mPar, mFor, mCall, isArg, RV.ev, List.map_cons, List.map_nil, List.length_cons, List.length_nil, List.replicate, List.cons_append, List.nil_append, List.getElem?_cons_zero, List.getElem?_cons_succ, List.set_cons_zero, List.set_cons_succ, Option.map_some, Option.map_none, Bool.not_true, Bool.not_false, if_true, Bool.false_eq_true, if_false, List.append_nil, Nat.sub_self, Nat.reduceAdd, Nat.reduceSub, Nat.add_zero, Nat.zero_add, mSrcGet, mSrcPut, mSrcLen, mSrcPop, get_cells, get_left, get_mixed, get_turn, srcPutV, put_left, put_mixed, put_turn, gt_ints, lt_ints, h1, h2, hc, Bool.and_true, Bool.and_false, Bool.true_and, Bool.false_and]
theorem pickB_eq (n : Int) (s : Src) (c : Int) (h : s.cells[s.cells.length - 1]? = some c) : pickB (pe0 n) (some s) = .ok .nx (pe0 n) (some { s with cells := s.cells.dropLast, left := c }) := by
  simp only [pickB, bodyRun, startE, slotArg, M.bind, M.pure, M.opt, mK, mVar, mVarB, mFrz, mBin, mUn, look, mBool, mAndT, mOrT, mNotT, mAndV, mOrV, mNotV, mIf, mNil, mCons, mArg, dataOf, mDisp, mSized, lookAll, mCallB, mIsi, mSl, mPart, mRg1, mRg2, mIntOf, mItems, mRange1, mRange2, evInts, rng1, rng2, mEnum, mZip, mNx, mSeqS, mDrop, mRet, mRetV, mIfS, slotOf, mSet, mAsgP, mPar, mFor, mCall, isArg, RV.ev, List.map_cons, List.map_nil, List.length_cons, List.length_nil, List.replicate, List.cons_append, List.nil_append, List.getElem?_cons_zero, List.getElem?_cons_succ, List.set_cons_zero, List.set_cons_succ, Option.map_some, Option.map_none, Bool.not_true, Bool.not_false, if_true, Bool.false_eq_true, if_false, List.append_nil, Nat.sub_self, Nat.reduceAdd, Nat.reduceSub, Nat.add_zero, Nat.zero_add, mSrcGet, mSrcPut, mSrcLen, mSrcPop, get_cells, get_left, get_mixed, get_turn, srcPutV, put_left, put_mixed, put_turn, h]
theorem while_pick (n : Int) : ∀ (k : Nat) (s : Src), s.cells.length < k → ∃ s' : Src, whileD pickT pickB k (pe0 n) (some s) = .ok .nx (pe0 n) (some s') ∧ s'.cells.length ≤ s.cells.length
  | k + 1, s, h => by
    rw [wh_unfold, bind_eq (pickT_eq n s)]
    cases q : (decide (1 < n) && (decide (s.left < 2) && decide (0 < s.cells.length))) with
    | false => exact ⟨s, rfl, Nat.le_refl _⟩
    | true =>
      rw [Bool.and_eq_true, Bool.and_eq_true, decide_eq_true_eq, decide_eq_true_eq, decide_eq_true_eq] at q
      have hl := q.2.2
      have hc : s.cells[s.cells.length - 1]? = some s.cells[s.cells.length - 1] := List.getElem?_eq_getElem (by omega)
      obtain ⟨s', h1, h2⟩ := while_pick n k { s with cells := s.cells.dropLast, left := s.cells[s.cells.length - 1] } (by simp; omega)
      rw [if_pos rfl, bind_eq (pickB_eq n s _ hc)]
      exact ⟨s', h1, by simp at h2; omega⟩
/-- a number below n -/
theorem pick_ok (n : Int) (g : G) (hg : Live g) (h1 : n ≤ 1000000) : WpF (fm__law_pick [.src false, .d (.int n)] g) fun ev g' => ∃ i : Int, ev = .d (.int i) ∧ 0 ≤ i ∧ i < max 1 n ∧ Live g' := by
  obtain ⟨s, rfl, hs⟩ := hg
  obtain ⟨s', w, hl⟩ := while_pick n 1000 s (by omega)
  have wh : wh__law_pick_1 [.src false, .d (.int n), .un, .un] (some s) = .ok .nx (pe0 n) (some s') := w
  have hm0 : 0 < max 1 n := by have := Int.le_max_left 1 n; omega
  have hm1 : max 1 n ≤ 1000000000 := by have := Int.max_le.mpr ⟨show (1 : Int) ≤ 1000000000 by omega, show n ≤ 1000000000 by omega⟩; exact this
  cases q1 : decide (n < 2) with
  | true =>
    refine WpF.of (ev := .d (.int (s'.left % max 1 n))) (e := []) (g := some { s' with left := s'.left / max 1 n }) ?_ ⟨_, rfl, Int.emod_nonneg _ (by omega), Int.emod_lt_of_pos _ hm0, _, rfl, by show s'.cells.length ≤ 63; omega⟩
    simp only [fm__law_pick, bd__law_pick, bodyRun, startE, slotArg, M.bind, M.pure, M.opt, mK, mVar, mVarB, mFrz, mBin, mUn, look, mBool, mAndT, mOrT, mNotT, mAndV, mOrV, mNotV, mIf, mNil, mCons, mArg, dataOf, mDisp, mSized, lookAll, mCallB, mIsi, mSl, mPart, mRg1, mRg2, mIntOf, mItems, mRange1, mRange2, evInts, rng1, rng2, mEnum, mZip, mNx, mSeqS, mDrop, mRet, mRetV, mIfS, slotOf, mSet, mAsgP, mPar, mFor, mCall, isArg, RV.ev, List.map_cons, List.map_nil, List.length_cons, List.length_nil, List.replicate, List.cons_append, List.nil_append, List.getElem?_cons_zero, List.getElem?_cons_succ, List.set_cons_zero, List.set_cons_succ, Option.map_some, Option.map_none, Bool.not_true, Bool.not_false, if_true, Bool.false_eq_true, if_false, List.append_nil, Nat.sub_self, Nat.reduceAdd, Nat.reduceSub, Nat.add_zero, Nat.zero_add, mSrcGet, mSrcPut, mSrcLen, mSrcPop, get_cells, get_left, get_mixed, get_turn, srcPutV, put_left, put_mixed, put_turn, wh, lt_ints, gt_ints, q1, int_int, max2_ints, mod_ints hm0, fdiv_ints hm0 hm1]
  | false =>
    cases q2 : decide (1 < s'.left) with
    | true =>
      refine WpF.of (ev := .d (.int (s'.left % max 1 n))) (e := []) (g := some { s' with left := s'.left / max 1 n }) ?_ ⟨_, rfl, Int.emod_nonneg _ (by omega), Int.emod_lt_of_pos _ hm0, _, rfl, by show s'.cells.length ≤ 63; omega⟩
      simp only [fm__law_pick, bd__law_pick, bodyRun, startE, slotArg, M.bind, M.pure, M.opt, mK, mVar, mVarB, mFrz, mBin, mUn, look, mBool, mAndT, mOrT, mNotT, mAndV, mOrV, mNotV, mIf, mNil, mCons, mArg, dataOf, mDisp, mSized, lookAll, mCallB, mIsi, mSl, mPart, mRg1, mRg2, mIntOf, mItems, mRange1, mRange2, evInts, rng1, rng2, mEnum, mZip, mNx, mSeqS, mDrop, mRet, mRetV, mIfS, slotOf, mSet, mAsgP, mPar, mFor, mCall, isArg, RV.ev, List.map_cons, List.map_nil, List.length_cons, List.length_nil, List.replicate, List.cons_append, List.nil_append, List.getElem?_cons_zero, List.getElem?_cons_succ, List.set_cons_zero, List.set_cons_succ, Option.map_some, Option.map_none, Bool.not_true, Bool.not_false, if_true, Bool.false_eq_true, if_false, List.append_nil, Nat.sub_self, Nat.reduceAdd, Nat.reduceSub, Nat.add_zero, Nat.zero_add, mSrcGet, mSrcPut, mSrcLen, mSrcPop, get_cells, get_left, get_mixed, get_turn, srcPutV, put_left, put_mixed, put_turn, wh, lt_ints, gt_ints, q1, q2, int_int, max2_ints, mod_ints hm0, fdiv_ints hm0 hm1]
    | false =>
      have hn : 2 ≤ n := by have := of_decide_eq_false q1; omega
      have hn0 : 0 < n := by omega
      have hmax : max 1 n = n := Int.max_eq_right (by omega)
      have p1 : (0 : Int) < 998244353 := by omega
      have p2 : (0 : Int) < 2147483647 := by omega
      have b1 : ((s'.mixed + (s'.turn + 1) * 104729) % 998244353).natAbs < 2 ^ 64 := by omega
      have m1 : pyMul (.int (s'.turn + 1)) (.int 104729) = some (.d (.int ((s'.turn + 1) * 104729))) := mul_right (by decide)
      have m2 : pyMul (.int (s'.turn + 1)) (.int 17) = some (.d (.int ((s'.turn + 1) * 17))) := mul_right (by decide)
      have m3 := mul_right (i := (s'.mixed + (s'.turn + 1) * 104729) % 998244353) b1
      refine WpF.of (ev := .d (.int ((((s'.mixed + (s'.turn + 1) * 104729) % 998244353 * ((s'.mixed + (s'.turn + 1) * 104729) % 998244353) + (s'.turn + 1) * 17) % 2147483647 / 16) % n))) (e := [])
        (g := some { s' with turn := s'.turn + 1, mixed := ((s'.mixed + (s'.turn + 1) * 104729) % 998244353 * ((s'.mixed + (s'.turn + 1) * 104729) % 998244353) + (s'.turn + 1) * 17) % 2147483647 }) ?_ ⟨_, rfl, Int.emod_nonneg _ (by omega), by rw [hmax]; exact Int.emod_lt_of_pos _ hn0, _, rfl, by show s'.cells.length ≤ 63; omega⟩
      simp only [fm__law_pick, bd__law_pick, bodyRun, startE, slotArg, M.bind, M.pure, M.opt, mK, mVar, mVarB, mFrz, mBin, mUn, look, mBool, mAndT, mOrT, mNotT, mAndV, mOrV, mNotV, mIf, mNil, mCons, mArg, dataOf, mDisp, mSized, lookAll, mCallB, mIsi, mSl, mPart, mRg1, mRg2, mIntOf, mItems, mRange1, mRange2, evInts, rng1, rng2, mEnum, mZip, mNx, mSeqS, mDrop, mRet, mRetV, mIfS, slotOf, mSet, mAsgP, mPar, mFor, mCall, isArg, RV.ev, List.map_cons, List.map_nil, List.length_cons, List.length_nil, List.replicate, List.cons_append, List.nil_append, List.getElem?_cons_zero, List.getElem?_cons_succ, List.set_cons_zero, List.set_cons_succ, Option.map_some, Option.map_none, Bool.not_true, Bool.not_false, if_true, Bool.false_eq_true, if_false, List.append_nil, Nat.sub_self, Nat.reduceAdd, Nat.reduceSub, Nat.add_zero, Nat.zero_add, mSrcGet, mSrcPut, mSrcLen, mSrcPop, get_cells, get_left, get_mixed, get_turn, srcPutV, put_left, put_mixed, put_turn, wh, lt_ints, gt_ints, q1, q2, int_int, mod_ints hn0, mod_ints p1, mod_ints p2, add_ints, m1, m2, m3, fdiv_ints (show (0 : Int) < 16 by omega) (show (16 : Int) ≤ 1000000000 by omega)]
end Lk56
namespace Lk56
open PySem L2 DL
theorem bodyRun_env {n : Nat} {mb : M Fl} {evs : List EV} {g : G} {K : EV → G → Prop} (h : WpF (bodyRun n mb evs g) K) : ∃ ev g', bodyRun n mb evs g = .ok ev [] g' ∧ K ev g' := by
  unfold bodyRun at h ⊢
  cases q : mb (startE n evs) g with
  | bad => rw [q] at h; exact h.elim
  | exc _ _ _ _ => rw [q] at h; exact h.elim
  | ok fl e g' =>
    rw [q] at h
    cases fl with
    | nx => exact ⟨_, _, rfl, h⟩
    | bk => exact h.elim
    | ct => exact h.elim
    | rt v =>
      cases v with
      | bo i => exact h.elim
      | scr m => exact h.elim
      | _ => exact ⟨_, _, rfl, h⟩
theorem pick_eq (n : Int) (g : G) (hg : Live g) (h1 : n ≤ 1000000) : ∃ (i : Int) (g' : G), fm__law_pick [.src false, .d (.int n)] g = .ok (.d (.int i)) [] g' ∧ 0 ≤ i ∧ i < max 1 n ∧ Live g' := by
  obtain ⟨ev, g', h2, i, rfl, h3, h4, h5⟩ := bodyRun_env (pick_ok n g hg h1)
  exact ⟨i, g', h2, h3, h4, h5⟩
theorem pick_pos {n : Nat} (hn : 0 < n) {i : Int} (h0 : 0 ≤ i) (h : i < max 1 (n : Int)) : ∃ k : Nat, i = (k : Int) ∧ k < n := by
  obtain ⟨k, rfl⟩ := Int.eq_ofNat_of_zero_le h0
  refine ⟨k, rfl, ?_⟩
  rw [Int.max_eq_right (by omega)] at h
  omega
/-! ### the source -/
theorem src_loop : ∀ (ms : List Int) (xs : Slot) (m : Int) (s2 : Slot), (∀ x, s2 ≠ .own x) → ∃ m' s2', forD (.nm 2) lb__law_source_1 (ms.map .int) [xs, .d (.int m), s2] none = .ok .nx [xs, .d (.int m'), s2'] none ∧ ∀ x, s2' ≠ .own x
  | [], xs, m, s2, h => ⟨m, s2, rfl, h⟩
  | c :: ms, xs, m, s2, h => by
    obtain ⟨m', s2', ih, h2⟩ := src_loop ms xs ((m * 69069 + c * 31 + 5) % 2147483629) (.d (.int c)) nofun
    refine ⟨m', s2', ?_, h2⟩
    have m1 : pyMul (.int m) (.int 69069) = some (.d (.int (m * 69069))) := mul_right (by decide)
    have m2 : pyMul (.int c) (.int 31) = some (.d (.int (c * 31))) := mul_right (by decide)
    have hb : lb__law_source_1 [xs, .d (.int m), .d (.int c)] none = .ok .nx [xs, .d (.int ((m * 69069 + c * 31 + 5) % 2147483629)), .d (.int c)] none := by
      simp only [lb__law_source_1, bodyRun, startE, slotArg, M.bind, M.pure, M.opt, mK, mVar, mVarB, mFrz, mBin, mUn, look, mBool, mAndT, mOrT, mNotT, mAndV, mOrV, mNotV, mIf, mNil, mCons, mArg, dataOf, mDisp, mSized, lookAll, mCallB, mIsi, mSl, mPart, mRg1, mRg2, mIntOf, mItems, mRange1, mRange2, evInts, rng1, rng2, mEnum, mZip, mNx, mSeqS, mDrop, mRet, mRetV, mIfS, slotOf, mSet, mAsgP, mPar, mFor, mCall, isArg, RV.ev, List.map_cons, List.map_nil, List.length_cons, List.length_nil, List.replicate, List.cons_append, List.nil_append, List.getElem?_cons_zero, List.getElem?_cons_succ, List.set_cons_zero, List.set_cons_succ, Option.map_some, Option.map_none, Bool.not_true, Bool.not_false, if_true, Bool.false_eq_true, if_false, List.append_nil, Nat.sub_self, Nat.reduceAdd, Nat.reduceSub, Nat.add_zero, Nat.zero_add, m1, m2, add_ints, int_int, mod_ints (show (0 : Int) < 2147483629 by omega)]
    have ha : asg (.nm 2) (.int c) [xs, .d (.int m), s2] = some [xs, .d (.int m), .d (.int c)] := rfl
    rw [List.map_cons]
    unfold forD
    rw [ha]
    dsimp only
    rw [bind_eq hb]
    exact ih
def absI (i : Int) : Int := if i < 0 then -i else i
theorem source_eq (ns : List Int) (h : ns.length ≤ 63) : ∃ g', fm__law_source [.scr ns] none = .ok (.src false) [] g' ∧ Live g' := by
  obtain ⟨m', s2', L, no⟩ := src_loop ns (.scr ns) 11 .un nofun
  have lp : lp__law_source_1 [.scr ns, .d (.int 11), .un] none = .ok .nx [.scr ns, .d (.int m'), s2'] none := L
  have hno : noOwn [.scr ns, .d (.int m'), s2'] [2] = true := by
    cases s2' with
    | own x => exact absurd rfl (no x)
    | _ => rfl
  have hc : cp__law_source_1 [.scr ns, .d (.int m'), s2'] none = .ok (.fr (li (ns.map absI))) [.scr ns, .d (.int m'), s2'] none := by
    have q : cp__law_source_1 [.scr ns, .d (.int m'), s2'] none = _ := mComp_all (p := .nm 2) (vs := [2]) (ofI absI) (env1 := [.scr ns, .d (.int m'), s2']) (xs := ns.map .int) (g1 := none) rfl hno (by rw [List.length_map, sizeLine_eq]; omega) fun y hy => by
      obtain ⟨p, hm, rfl⟩ := List.mem_map.mp hy
      refine ⟨[.scr ns, .d (.int m'), .d (.int p)], rfl, rfl, ?_⟩
      simp only [bodyRun, startE, slotArg, M.bind, M.pure, M.opt, mK, mVar, mVarB, mFrz, mBin, mUn, look, mBool, mAndT, mOrT, mNotT, mAndV, mOrV, mNotV, mIf, mNil, mCons, mArg, dataOf, mDisp, mSized, lookAll, mCallB, mIsi, mSl, mPart, mRg1, mRg2, mIntOf, mItems, mRange1, mRange2, evInts, rng1, rng2, mEnum, mZip, mNx, mSeqS, mDrop, mRet, mRetV, mIfS, slotOf, mSet, mAsgP, mPar, mFor, mCall, isArg, RV.ev, List.map_cons, List.map_nil, List.length_cons, List.length_nil, List.replicate, List.cons_append, List.nil_append, List.getElem?_cons_zero, List.getElem?_cons_succ, List.set_cons_zero, List.set_cons_succ, Option.map_some, Option.map_none, Bool.not_true, Bool.not_false, if_true, Bool.false_eq_true, if_false, List.append_nil, Nat.sub_self, Nat.reduceAdd, Nat.reduceSub, Nat.add_zero, Nat.zero_add, pyAbs, oneI, ofI, absI]
    rw [map_ofI] at q
    exact q
  refine ⟨some ⟨(ns.map absI).reverse, 1, m', 0⟩, ?_, _, rfl, by simp; omega⟩
  simp only [fm__law_source, bd__law_source, bodyRun, startE, slotArg, M.bind, M.pure, M.opt, mK, mVar, mVarB, mFrz, mBin, mUn, look, mBool, mAndT, mOrT, mNotT, mAndV, mOrV, mNotV, mIf, mNil, mCons, mArg, dataOf, mDisp, mSized, lookAll, mCallB, mIsi, mSl, mPart, mRg1, mRg2, mIntOf, mItems, mRange1, mRange2, evInts, rng1, rng2, mEnum, mZip, mNx, mSeqS, mDrop, mRet, mRetV, mIfS, slotOf, mSet, mAsgP, mPar, mFor, mCall, isArg, RV.ev, List.map_cons, List.map_nil, List.length_cons, List.length_nil, List.replicate, List.cons_append, List.nil_append, List.getElem?_cons_zero, List.getElem?_cons_succ, List.set_cons_zero, List.set_cons_succ, Option.map_some, Option.map_none, Bool.not_true, Bool.not_false, if_true, Bool.false_eq_true, if_false, List.append_nil, Nat.sub_self, Nat.reduceAdd, Nat.reduceSub, Nat.add_zero, Nat.zero_add, lp, hc, mSrcNew, pyRev, srcNewD, ← List.map_reverse, intsOf_map]
/-! ### one of some -/
theorem of_eq (ds : List PyData) (g : G) (hg : Live g) (h0 : 0 < ds.length) (h1 : ds.length ≤ 1000) : ∃ (x : PyData) (g' : G), fm__law_of [.src false, .d (.list ds)] g = .ok (.d x) [] g' ∧ x ∈ ds ∧ Live g' := by
  obtain ⟨i, g', hp, i0, i1, hl⟩ := pick_eq (ds.length : Nat) g hg (by omega)
  obtain ⟨k, rfl, hk⟩ := pick_pos h0 i0 i1
  have ha : atI ds (k : Int) = some ds[k] := atI_nat (List.getElem?_eq_getElem hk)
  refine ⟨ds[k], g', ?_, List.getElem_mem hk, hl⟩
  simp only [fm__law_of, bd__law_of, bodyRun, startE, slotArg, M.bind, M.pure, M.opt, mK, mVar, mVarB, mFrz, mBin, mUn, look, mBool, mAndT, mOrT, mNotT, mAndV, mOrV, mNotV, mIf, mNil, mCons, mArg, dataOf, mDisp, mSized, lookAll, mCallB, mIsi, mSl, mPart, mRg1, mRg2, mIntOf, mItems, mRange1, mRange2, evInts, rng1, rng2, mEnum, mZip, mNx, mSeqS, mDrop, mRet, mRetV, mIfS, slotOf, mSet, mAsgP, mPar, mFor, mCall, isArg, RV.ev, List.map_cons, List.map_nil, List.length_cons, List.length_nil, List.replicate, List.cons_append, List.nil_append, List.getElem?_cons_zero, List.getElem?_cons_succ, List.set_cons_zero, List.set_cons_succ, Option.map_some, Option.map_none, Bool.not_true, Bool.not_false, if_true, Bool.false_eq_true, if_false, List.append_nil, Nat.sub_self, Nat.reduceAdd, Nat.reduceSub, Nat.add_zero, Nat.zero_add, len_lst, hp, List.all_cons, List.all_nil, Bool.and_self, and_self, pyIx, ha]
/-! ### mixed -/
theorem erase_perm {α : Type} : ∀ (l : List α) (k : Nat) (h : k < l.length), (l[k] :: l.eraseIdx k).Perm l
  | x :: l, 0, _ => .refl _
  | x :: l, k + 1, h => by
    have hk : k < l.length := by simpa using h
    have ih := erase_perm l k hk
    show (l[k] :: x :: l.eraseIdx k).Perm (x :: l)
    exact (List.Perm.swap x l[k] _).trans (ih.cons x)
abbrev me0 (ds rest : List PyData) (s3 : Slot) : Env' := [.src false, .d (.list ds), .own (.list rest), s3]
theorem mixed_loop (ds : List PyData) : ∀ (xs rest acc : List PyData) (g : G), xs.length = rest.length → acc.length + rest.length ≤ 1000 → Live g →
    ∃ (out : List PyData) (g' : G), loopC (.nm 3) [3] mYes (M.bind (mOn 2 (mPopAt 2 (M.bind (mCall 2 fm__law_pick (mCons (mArg (mVar 0)) (mCons (mArg (mCallB DL.pyLen (mCons (mVarB 2) mNil))) mNil))) mFrz))) mFrz) xs acc (me0 ds rest .un) g = .ok (acc ++ out) (me0 ds [] .un) g' ∧ out.Perm rest ∧ Live g'
  | [], rest, acc, g, hx, hz, hg => by
    have : rest = [] := List.length_eq_zero_iff.mp hx.symm
    subst this
    exact ⟨[], g, by simp [loopC, M.pure], .nil, hg⟩
  | x :: xs, rest, acc, g, hx, hz, hg => by
    rw [List.length_cons] at hx
    obtain ⟨i, g1, hp, i0, i1, hl⟩ := pick_eq (rest.length : Nat) g hg (by omega)
    obtain ⟨k, rfl, hk⟩ := pick_pos (by omega) i0 i1
    have hr : (rest.eraseIdx k).length = rest.length - 1 := by rw [List.length_eraseIdx, if_pos hk]
    obtain ⟨out, g', ih, hperm, hl'⟩ := mixed_loop ds xs (rest.eraseIdx k) (acc ++ [rest[k]]) g1 (by omega) (by simp; omega) hl
    refine ⟨rest[k] :: out, g', ?_, ?_, hl'⟩
    · have hq : seqIndex? (k : Int) rest.length = some k := seqIndex_of (by omega) (by omega)
      have hg1 : rest[k]? = some rest[k] := List.getElem?_eq_getElem hk
      have hb : ((k : Int)).natAbs < 2 ^ 63 := by omega
      have he : (M.bind (mOn 2 (mPopAt 2 (M.bind (mCall 2 fm__law_pick (mCons (mArg (mVar 0)) (mCons (mArg (mCallB DL.pyLen (mCons (mVarB 2) mNil))) mNil))) mFrz))) mFrz) (me0 ds rest (.d x)) g = .ok rest[k] (me0 ds (rest.eraseIdx k) (.d x)) g1 := by
        simp only [bodyRun, startE, slotArg, M.bind, M.pure, M.opt, mK, mVar, mVarB, mFrz, mBin, mUn, look, mBool, mAndT, mOrT, mNotT, mAndV, mOrV, mNotV, mIf, mNil, mCons, mArg, dataOf, mDisp, mSized, lookAll, mCallB, mIsi, mSl, mPart, mRg1, mRg2, mIntOf, mItems, mRange1, mRange2, evInts, rng1, rng2, mEnum, mZip, mNx, mSeqS, mDrop, mRet, mRetV, mIfS, slotOf, mSet, mAsgP, mPar, mFor, mCall, isArg, RV.ev, List.map_cons, List.map_nil, List.length_cons, List.length_nil, List.replicate, List.cons_append, List.nil_append, List.getElem?_cons_zero, List.getElem?_cons_succ, List.set_cons_zero, List.set_cons_succ, Option.map_some, Option.map_none, Bool.not_true, Bool.not_false, if_true, Bool.false_eq_true, if_false, List.append_nil, Nat.sub_self, Nat.reduceAdd, Nat.reduceSub, Nat.add_zero, Nat.zero_add, mOn, ownIs, mPopAt, ownL, len_lst, hp, List.all_cons, List.all_nil, Bool.and_self, and_self, hq, hg1, hb]
      have ha : asg (.nm 3) x (me0 ds rest .un) = some (me0 ds rest (.d x)) := rfl
      unfold loopC
      rw [ha]
      dsimp only
      rw [bind_eq (show mYes (me0 ds rest (.d x)) g = .ok true (me0 ds rest (.d x)) g from rfl), if_pos rfl, bind_eq he, if_pos (by rw [sizeLine_eq]; omega)]
      rw [show wipeE (me0 ds (rest.eraseIdx k) (.d x)) [3] = me0 ds (rest.eraseIdx k) .un from rfl, ih]
      simp
    · exact (hperm.cons rest[k]).trans (erase_perm rest k hk)
theorem mixed_eq (ds : List PyData) (g : G) (hg : Live g) (h1 : ds.length ≤ 1000) : ∃ (out : List PyData) (g' : G), fm__law_mixed [.src false, .d (.list ds)] g = .ok (.fr (.list out)) [] g' ∧ out.Perm ds ∧ Live g' := by
  have hr := rngTo_nat (n := ds.length) (by omega)
  obtain ⟨out, g', L, hp, hl⟩ := mixed_loop ds ((ints0 ds.length).map .int) ds [] g (by simp [ints0_length]) (by simpa using h1) hg
  refine ⟨out, g', ?_, hp, hl⟩
  have e : (M.bind (mCons (mCallB DL.pyLen (mCons (mVarB 2) mNil)) mNil) mRange1) (me0 ds ds .un) g = .ok ((ints0 ds.length).map .int) (me0 ds ds .un) g := by
    simp only [bodyRun, startE, slotArg, M.bind, M.pure, M.opt, mK, mVar, mVarB, mFrz, mBin, mUn, look, mBool, mAndT, mOrT, mNotT, mAndV, mOrV, mNotV, mIf, mNil, mCons, mArg, dataOf, mDisp, mSized, lookAll, mCallB, mIsi, mSl, mPart, mRg1, mRg2, mIntOf, mItems, mRange1, mRange2, evInts, rng1, rng2, mEnum, mZip, mNx, mSeqS, mDrop, mRet, mRetV, mIfS, slotOf, mSet, mAsgP, mPar, mFor, mCall, isArg, RV.ev, List.map_cons, List.map_nil, List.length_cons, List.length_nil, List.replicate, List.cons_append, List.nil_append, List.getElem?_cons_zero, List.getElem?_cons_succ, List.set_cons_zero, List.set_cons_succ, Option.map_some, Option.map_none, Bool.not_true, Bool.not_false, if_true, Bool.false_eq_true, if_false, List.append_nil, Nat.sub_self, Nat.reduceAdd, Nat.reduceSub, Nat.add_zero, Nat.zero_add, len_lst, hr]
  have hc : cp__law_mixed_1 (me0 ds ds .un) g = .ok (.fr (.list out)) (me0 ds [] .un) g' := by
    unfold cp__law_mixed_1 mComp
    rw [bind_eq e]
    have hbk : (blockOf [3] (loopC (.nm 3) [3] mYes (M.bind (mOn 2 (mPopAt 2 (M.bind (mCall 2 fm__law_pick (mCons (mArg (mVar 0)) (mCons (mArg (mCallB DL.pyLen (mCons (mVarB 2) mNil))) mNil))) mFrz))) mFrz) ((ints0 ds.length).map .int) [])) (me0 ds ds .un) g = .ok out (me0 ds [] .un) g' := by
      unfold blockOf
      rw [if_pos (show noOwn (me0 ds ds .un) [3] = true from rfl), show wipeE (me0 ds ds .un) [3] = me0 ds ds .un from rfl, L]
      rfl
    rw [bind_eq hbk]
    rfl
  simp only [fm__law_mixed, bd__law_mixed, bodyRun, startE, slotArg, M.bind, M.pure, M.opt, mK, mVar, mVarB, mFrz, mBin, mUn, look, mBool, mAndT, mOrT, mNotT, mAndV, mOrV, mNotV, mIf, mNil, mCons, mArg, dataOf, mDisp, mSized, lookAll, mCallB, mIsi, mSl, mPart, mRg1, mRg2, mIntOf, mItems, mRange1, mRange2, evInts, rng1, rng2, mEnum, mZip, mNx, mSeqS, mDrop, mRet, mRetV, mIfS, slotOf, mSet, mAsgP, mPar, mFor, mCall, isArg, RV.ev, List.map_cons, List.map_nil, List.length_cons, List.length_nil, List.replicate, List.cons_append, List.nil_append, List.getElem?_cons_zero, List.getElem?_cons_succ, List.set_cons_zero, List.set_cons_succ, Option.map_some, Option.map_none, Bool.not_true, Bool.not_false, if_true, Bool.false_eq_true, if_false, List.append_nil, Nat.sub_self, Nat.reduceAdd, Nat.reduceSub, Nat.add_zero, Nat.zero_add, pyListOf, hc]
theorem order_eq (n : Nat) (g : G) (hg : Live g) (h1 : n ≤ 1000) : ∃ (ns : List Int) (g' : G), fm__law_order [.src false, .d (.int (n : Int))] g = .ok (.d (ti ns)) [] g' ∧ ns.Perm (ints0 n) ∧ Live g' := by
  have hr : rg__law_order_1 [.src false, .d (.int (n : Int))] g = .ok (.fr (li (ints0 n))) [.src false, .d (.int (n : Int))] g := mRgL_nat rfl (by omega)
  obtain ⟨out, g', hm, hp, hl⟩ := mixed_eq ((ints0 n).map .int) g hg (by simp [ints0_length]; omega)
  have ho : ∃ ns : List Int, out = ns.map .int ∧ ns.Perm (ints0 n) := by
    have h2 := isInt_ints (ds := out) (by
      rw [List.all_eq_true]
      intro d hd
      obtain ⟨i, _, rfl⟩ := List.mem_map.mp (hp.mem_iff.mp hd)
      rfl)
    obtain ⟨ns, rfl⟩ := h2
    refine ⟨ns, rfl, ?_⟩
    have h3 := hp.filterMap (fun d : PyData => match d with | .int i => some i | _ => none)
    have z : ∀ l : List Int, (l.map PyData.int).filterMap (fun d : PyData => match d with | .int i => some i | _ => none) = l := fun l => by
      rw [List.filterMap_map]
      exact List.filterMap_some
    rw [z, z] at h3
    exact h3
  obtain ⟨ns, rfl, hp'⟩ := ho
  refine ⟨ns, g', ?_, hp', hl⟩
  simp only [fm__law_order, bd__law_order, bodyRun, startE, slotArg, M.bind, M.pure, M.opt, mK, mVar, mVarB, mFrz, mBin, mUn, look, mBool, mAndT, mOrT, mNotT, mAndV, mOrV, mNotV, mIf, mNil, mCons, mArg, dataOf, mDisp, mSized, lookAll, mCallB, mIsi, mSl, mPart, mRg1, mRg2, mIntOf, mItems, mRange1, mRange2, evInts, rng1, rng2, mEnum, mZip, mNx, mSeqS, mDrop, mRet, mRetV, mIfS, slotOf, mSet, mAsgP, mPar, mFor, mCall, isArg, RV.ev, List.map_cons, List.map_nil, List.length_cons, List.length_nil, List.replicate, List.cons_append, List.nil_append, List.getElem?_cons_zero, List.getElem?_cons_succ, List.set_cons_zero, List.set_cons_succ, Option.map_some, Option.map_none, Bool.not_true, Bool.not_false, if_true, Bool.false_eq_true, if_false, List.append_nil, Nat.sub_self, Nat.reduceAdd, Nat.reduceSub, Nat.add_zero, Nat.zero_add, hr, hm, List.all_cons, List.all_nil, Bool.and_self, and_self, pyTupOf]
end Lk56
namespace Lk56
open PySem L2 DL
/-- the odd values -/
def oddL : List PyData := [.none, .bool true, .int 0, .int 1, .int (-1), .str "x", .tuple [], ti [0], ti [0, 1], ti [1, 0], .tuple [ti [0]], .tuple [ti [1, 0]], .tuple [ti [0, 0]], .list [], .dict [], .int (10 ^ 20)]
theorem odd_small : ∀ x ∈ oddL, RL 2 x = true := by
  have h : (oddL.all (RL 2)) = true := by decide +kernel
  exact List.all_eq_true.mp h
/-- told parts: ints, rows of such -/
def TL : Nat → PyData → Bool
  | 0, .int i => decide (i.natAbs ≤ 1000)
  | 0, _ => false
  | k + 1, .tuple ds => decide (ds.length ≤ 11) && ds.all (TL k)
  | _ + 1, _ => false
theorem TL_RL : ∀ (k : Nat) (x : PyData), TL k x = true → RL k x = true
  | 0, x, h => by
    cases x with
    | int i =>
      have h : decide (i.natAbs ≤ 1000) = true := h
      rw [decide_eq_true_eq] at h
      exact decide_eq_true (Nat.lt_of_le_of_lt h (by decide))
    | _ => cases h
  | k + 1, x, h => by
    cases x with
    | tuple ds =>
      have h : (decide (ds.length ≤ 11) && ds.all (TL k)) = true := h
      rw [Bool.and_eq_true, decide_eq_true_eq, List.all_eq_true] at h
      unfold RL
      rw [Bool.or_eq_true]
      refine .inr ?_
      show (decide (ds.length ≤ 12) && ds.all (RL k)) = true
      rw [Bool.and_eq_true, decide_eq_true_eq, List.all_eq_true]
      exact ⟨by omega, fun d hd => TL_RL k d (h.2 d hd)⟩
    | _ => cases h
theorem RL_tup {k : Nat} {ds : List PyData} (h1 : ds.length ≤ 12) (h2 : ∀ d ∈ ds, RL k d = true) : RL (k + 1) (.tuple ds) = true := by
  unfold RL
  rw [Bool.or_eq_true]
  refine .inr ?_
  show (decide (ds.length ≤ 12) && ds.all (RL k)) = true
  rw [Bool.and_eq_true, decide_eq_true_eq, List.all_eq_true]
  exact ⟨h1, h2⟩
theorem RL_lst {k : Nat} {ds : List PyData} (h1 : ds.length ≤ 12) (h2 : ∀ d ∈ ds, RL k d = true) : RL (k + 1) (.list ds) = true := by
  unfold RL
  rw [Bool.or_eq_true]
  refine .inr ?_
  show (decide (ds.length ≤ 12) && ds.all (RL k)) = true
  rw [Bool.and_eq_true, decide_eq_true_eq, List.all_eq_true]
  exact ⟨h1, h2⟩
theorem eq_nil_tup (ds : List PyData) (h : SeqAt.shaped (.tuple ds) = true) : pyEq (.tuple ds) (.tuple []) = some (.d (.bool (decide (ds = [])))) := by
  have h0 : SeqAt.shaped (.tuple []) = true := rfl
  unfold pyEq eqOk
  rw [h, h0]
  cases ds with
  | nil => rfl
  | cons d ds => simp [PyData.eqv, PyData.eqvAll]
theorem canLayAll_of : ∀ {ds : List PyData}, (∀ d ∈ ds, d.canLay0 = true) → PyData.canLayAll0 ds = true
  | [], _ => rfl
  | d :: ds, h => by
    rw [PyData.canLayAll0, h d (by simp), canLayAll_of fun x hx => h x (List.mem_cons_of_mem _ hx)]
    rfl
theorem TL_shaped : ∀ (k : Nat) (x : PyData), TL k x = true → x.canLay0 = true ∧ x.depth ≤ k
  | 0, x, h => by
    cases x with
    | int i => exact ⟨rfl, Nat.le_of_eq (by simp [PyData.depth])⟩
    | _ => cases h
  | k + 1, x, h => by
    cases x with
    | tuple ds =>
      have h : (decide (ds.length ≤ 11) && ds.all (TL k)) = true := h
      rw [Bool.and_eq_true, List.all_eq_true] at h
      have h2 := h.2
      have c : PyData.canLayAll0 ds = true := canLayAll_of fun x hx => (TL_shaped k x (h2 x hx)).1
      refine ⟨by simpa [PyData.canLay0] using c, ?_⟩
      have := depthAll_le (k := k) (ds := ds) fun d hd => (TL_shaped k d (h2 d hd)).2
      simp only [PyData.depth]
      omega
    | _ => cases h
theorem cut_from (ds : List PyData) (k : Nat) (hk : k ≤ ds.length) : cutD ds (some (k : Int)) none = ds.drop k := by
  unfold cutD
  rw [HT.sIx_none, HT.sIx_nat, Nat.min_eq_left hk]
  exact List.take_of_length_le (by simp)
theorem cut_upto (ds : List PyData) (k : Nat) (hk : k ≤ ds.length) : cutD ds none (some (k : Int)) = ds.take k := by
  unfold cutD
  rw [HT.sIx_none, HT.sIx_nat, Nat.min_eq_left hk, List.drop_zero, Nat.sub_zero]
abbrev be (x od : PyData) (s3 s4 : Slot) : Env' := [.src false, .d x, .d od, s3, s4]
theorem bent_eq : ∀ (k j : Nat) (x : PyData) (g : G), TL k x = true → k < j → j ≤ 8 → Live g → ∃ (y : PyData) (g' : G), fm__law_bent' j [.src false, .d x, .d (.list oddL)] g = .ok (.d y) [] g' ∧ RL (k + 2) y = true ∧ Live g'
  | k, 0, x, g, h, hj, _, hg => by omega
  | k, j + 1, x, g, h, hj, h8, hg => by
    have ol : oddL.length ≤ 1000 := by decide
    have op : 0 < oddL.length := by decide
    have odd_end : ∀ g1, Live g1 → ∃ (y : PyData) (g' : G), fm__law_of [.src false, .d (.list oddL)] g1 = .ok (.d y) [] g' ∧ RL (k + 2) y = true ∧ Live g' := fun g1 h1 => by
      obtain ⟨y, g', h2, h3, h4⟩ := of_eq oddL g1 h1 op ol
      exact ⟨y, g', h2, RL_le (odd_small y h3) (by omega), h4⟩
    have s3 : szd [PyData.int 1, PyData.int (-1), PyData.int 2] = some [PyData.int 1, PyData.int (-1), PyData.int 2] := szd_of (by simp)
    have s0 : szd ([] : List PyData) = some [] := szd_of (by simp)
    cases x with
    | int i =>
      cases k with
      | succ k => cases h
      | zero =>
      have hi : i.natAbs ≤ 1000 := of_decide_eq_true h
      obtain ⟨c, g1, p1, c0, c1, l1⟩ := pick_eq 3 g hg (by omega)
      cases q : decide (0 < c) with
      | true =>
        obtain ⟨y, g2, p2, hy, l2⟩ := of_eq [.int 1, .int (-1), .int 2] g1 l1 (by simp) (by simp)
        have : ∃ m : Int, y = .int m ∧ m.natAbs ≤ 2 := by
          simp only [List.mem_cons, List.not_mem_nil, or_false] at hy
          rcases hy with rfl | rfl | rfl
          · exact ⟨1, rfl, by decide⟩
          · exact ⟨-1, rfl, by decide⟩
          · exact ⟨2, rfl, by decide⟩
        obtain ⟨m, rfl, hm⟩ := this
        refine ⟨.int (i + m), g2, ?_, ?_, l2⟩
        · simp only [fm__law_bent', bd__law_bent, bodyRun, startE, slotArg, M.bind, M.pure, M.opt, mK, mVar, mVarB, mFrz, mBin, mUn, look, mBool, mAndT, mOrT, mNotT, mAndV, mOrV, mNotV, mIf, mNil, mCons, mArg, dataOf, mDisp, mSized, lookAll, mCallB, mIsi, mSl, mPart, mRg1, mRg2, mIntOf, mItems, mRange1, mRange2, evInts, rng1, rng2, mEnum, mZip, mNx, mSeqS, mDrop, mRet, mRetV, mIfS, slotOf, mSet, mAsgP, mPar, mFor, mCall, isArg, RV.ev, List.map_cons, List.map_nil, List.length_cons, List.length_nil, List.replicate, List.cons_append, List.nil_append, List.getElem?_cons_zero, List.getElem?_cons_succ, List.set_cons_zero, List.set_cons_succ, Option.map_some, Option.map_none, Bool.not_true, Bool.not_false, if_true, Bool.false_eq_true, if_false, List.append_nil, Nat.sub_self, Nat.reduceAdd, Nat.reduceSub, Nat.add_zero, Nat.zero_add, isi_int_none, isi_int_bool, isi_int_int, isi_int_str, isi_int_list, isi_int_tuple, isi_int_dict, isi_bool_none, isi_bool_bool, isi_bool_int, isi_bool_str, isi_bool_list, isi_bool_tuple, isi_bool_dict, isi_str_none, isi_str_bool, isi_str_int, isi_str_str, isi_str_list, isi_str_tuple, isi_str_dict, isi_tuple_none, isi_tuple_bool, isi_tuple_int, isi_tuple_str, isi_tuple_list, isi_tuple_tuple, isi_tuple_dict, isi_list_none, isi_list_bool, isi_list_int, isi_list_str, isi_list_list, isi_list_tuple, isi_list_dict, p1, List.all_cons, List.all_nil, Bool.and_self, and_self, gt_ints, q, pyNeg, s3, p2, add_ints]
        · unfold RL
          rw [Bool.or_eq_true]
          refine .inl (decide_eq_true ?_)
          have : (i + m).natAbs ≤ 1002 := by omega
          exact Nat.lt_of_le_of_lt this (by decide)
      | false =>
        obtain ⟨y, g2, p2, hy, l2⟩ := odd_end g1 l1
        refine ⟨y, g2, ?_, hy, l2⟩
        simp only [fm__law_bent', bd__law_bent, bodyRun, startE, slotArg, M.bind, M.pure, M.opt, mK, mVar, mVarB, mFrz, mBin, mUn, look, mBool, mAndT, mOrT, mNotT, mAndV, mOrV, mNotV, mIf, mNil, mCons, mArg, dataOf, mDisp, mSized, lookAll, mCallB, mIsi, mSl, mPart, mRg1, mRg2, mIntOf, mItems, mRange1, mRange2, evInts, rng1, rng2, mEnum, mZip, mNx, mSeqS, mDrop, mRet, mRetV, mIfS, slotOf, mSet, mAsgP, mPar, mFor, mCall, isArg, RV.ev, List.map_cons, List.map_nil, List.length_cons, List.length_nil, List.replicate, List.cons_append, List.nil_append, List.getElem?_cons_zero, List.getElem?_cons_succ, List.set_cons_zero, List.set_cons_succ, Option.map_some, Option.map_none, Bool.not_true, Bool.not_false, if_true, Bool.false_eq_true, if_false, List.append_nil, Nat.sub_self, Nat.reduceAdd, Nat.reduceSub, Nat.add_zero, Nat.zero_add, isi_int_none, isi_int_bool, isi_int_int, isi_int_str, isi_int_list, isi_int_tuple, isi_int_dict, isi_bool_none, isi_bool_bool, isi_bool_int, isi_bool_str, isi_bool_list, isi_bool_tuple, isi_bool_dict, isi_str_none, isi_str_bool, isi_str_int, isi_str_str, isi_str_list, isi_str_tuple, isi_str_dict, isi_tuple_none, isi_tuple_bool, isi_tuple_int, isi_tuple_str, isi_tuple_list, isi_tuple_tuple, isi_tuple_dict, isi_list_none, isi_list_bool, isi_list_int, isi_list_str, isi_list_list, isi_list_tuple, isi_list_dict, p1, List.all_cons, List.all_nil, Bool.and_self, and_self, gt_ints, q, p2]
    | tuple ds =>
      cases k with
      | zero => cases h
      | succ k =>
      obtain ⟨hc, hd⟩ := TL_shaped (k + 1) _ h
      have hsh : SeqAt.shaped (.tuple ds) = true := by
        unfold SeqAt.shaped
        rw [hc, decide_eq_true (show (PyData.tuple ds).depth ≤ 64 by omega)]
        rfl
      have h' : (decide (ds.length ≤ 11) && ds.all (TL k)) = true := h
      rw [Bool.and_eq_true, decide_eq_true_eq, List.all_eq_true] at h'
      obtain ⟨hlen, hall⟩ := h'
      have he := eq_nil_tup ds hsh
      have hRL : ∀ d ∈ ds, RL (k + 2) d = true := fun d hd => RL_le (TL_RL k d (hall d hd)) (by omega)
      by_cases hn : ds = []
      · obtain ⟨y, g2, p2, hy, l2⟩ := odd_end g hg
        have hd1 : decide (ds = []) = true := decide_eq_true hn
        refine ⟨y, g2, ?_, hy, l2⟩
        simp only [fm__law_bent', bd__law_bent, bodyRun, startE, slotArg, M.bind, M.pure, M.opt, mK, mVar, mVarB, mFrz, mBin, mUn, look, mBool, mAndT, mOrT, mNotT, mAndV, mOrV, mNotV, mIf, mNil, mCons, mArg, dataOf, mDisp, mSized, lookAll, mCallB, mIsi, mSl, mPart, mRg1, mRg2, mIntOf, mItems, mRange1, mRange2, evInts, rng1, rng2, mEnum, mZip, mNx, mSeqS, mDrop, mRet, mRetV, mIfS, slotOf, mSet, mAsgP, mPar, mFor, mCall, isArg, RV.ev, List.map_cons, List.map_nil, List.length_cons, List.length_nil, List.replicate, List.cons_append, List.nil_append, List.getElem?_cons_zero, List.getElem?_cons_succ, List.set_cons_zero, List.set_cons_succ, Option.map_some, Option.map_none, Bool.not_true, Bool.not_false, if_true, Bool.false_eq_true, if_false, List.append_nil, Nat.sub_self, Nat.reduceAdd, Nat.reduceSub, Nat.add_zero, Nat.zero_add, isi_int_none, isi_int_bool, isi_int_int, isi_int_str, isi_int_list, isi_int_tuple, isi_int_dict, isi_bool_none, isi_bool_bool, isi_bool_int, isi_bool_str, isi_bool_list, isi_bool_tuple, isi_bool_dict, isi_str_none, isi_str_bool, isi_str_int, isi_str_str, isi_str_list, isi_str_tuple, isi_str_dict, isi_tuple_none, isi_tuple_bool, isi_tuple_int, isi_tuple_str, isi_tuple_list, isi_tuple_tuple, isi_tuple_dict, isi_list_none, isi_list_bool, isi_list_int, isi_list_str, isi_list_list, isi_list_tuple, isi_list_dict, s0, he, hd1, p2, List.all_cons, List.all_nil, Bool.and_self, and_self]
      have hd1 : decide (ds = []) = false := decide_eq_false hn
      have hpos : 0 < ds.length := List.length_pos_iff.mpr hn
      obtain ⟨c, g1, p1, c0, c1, l1⟩ := pick_eq 7 g hg (by omega)
      have ec := eq_ints c 0
      cases q : decide (c = 0) with
      | true =>
        obtain ⟨y, g2, p2, hy, l2⟩ := odd_end g1 l1
        rw [q] at ec
        refine ⟨y, g2, ?_, hy, l2⟩
        simp only [fm__law_bent', bd__law_bent, bodyRun, startE, slotArg, M.bind, M.pure, M.opt, mK, mVar, mVarB, mFrz, mBin, mUn, look, mBool, mAndT, mOrT, mNotT, mAndV, mOrV, mNotV, mIf, mNil, mCons, mArg, dataOf, mDisp, mSized, lookAll, mCallB, mIsi, mSl, mPart, mRg1, mRg2, mIntOf, mItems, mRange1, mRange2, evInts, rng1, rng2, mEnum, mZip, mNx, mSeqS, mDrop, mRet, mRetV, mIfS, slotOf, mSet, mAsgP, mPar, mFor, mCall, isArg, RV.ev, List.map_cons, List.map_nil, List.length_cons, List.length_nil, List.replicate, List.cons_append, List.nil_append, List.getElem?_cons_zero, List.getElem?_cons_succ, List.set_cons_zero, List.set_cons_succ, Option.map_some, Option.map_none, Bool.not_true, Bool.not_false, if_true, Bool.false_eq_true, if_false, List.append_nil, Nat.sub_self, Nat.reduceAdd, Nat.reduceSub, Nat.add_zero, Nat.zero_add, isi_int_none, isi_int_bool, isi_int_int, isi_int_str, isi_int_list, isi_int_tuple, isi_int_dict, isi_bool_none, isi_bool_bool, isi_bool_int, isi_bool_str, isi_bool_list, isi_bool_tuple, isi_bool_dict, isi_str_none, isi_str_bool, isi_str_int, isi_str_str, isi_str_list, isi_str_tuple, isi_str_dict, isi_tuple_none, isi_tuple_bool, isi_tuple_int, isi_tuple_str, isi_tuple_list, isi_tuple_tuple, isi_tuple_dict, isi_list_none, isi_list_bool, isi_list_int, isi_list_str, isi_list_list, isi_list_tuple, isi_list_dict, s0, he, hd1, p1, ec, p2, List.all_cons, List.all_nil, Bool.and_self, and_self]
      | false =>
      rw [q] at ec
      obtain ⟨i, g2, p2, i0, i1, l2⟩ := pick_eq (ds.length : Nat) g1 l1 (by omega)
      obtain ⟨m, rfl, hm⟩ := pick_pos hpos i0 i1
      obtain ⟨w, g3, p3, w0, w1, l3⟩ := pick_eq 8 g2 l2 (by omega)
      have k1 : cutD ds none (some (m : Int)) = ds.take m := cut_upto ds m (by omega)
      have k2 : cutD ds (some ((m : Int) + 1)) none = ds.drop (m + 1) := by
        have := cut_from ds (m + 1) (by omega)
        simpa using this
      have k3 : cutD ds none (some ((m : Int) + 1)) = ds.take (m + 1) := by
        have := cut_upto ds (m + 1) (by omega)
        simpa using this
      have k4 : cutD ds (some (m : Int)) none = ds.drop m := cut_from ds m (by omega)
      cases q2 : decide (w < 5) with
      | true =>
        obtain ⟨y, g4, p4, hy, l4⟩ := bent_eq k j ds[m] g3 (hall _ (List.getElem_mem hm)) (by omega) (by omega) l3
        have ha : atI ds (m : Int) = some ds[m] := atI_nat (List.getElem?_eq_getElem hm)
        have s1 : szd [y] = some [y] := szd_of (by simp)
        have a1 : pyAdd (.tuple (ds.take m)) (.tuple [y]) = some (.d (.tuple (ds.take m ++ [y]))) := add_tups (by simp; omega)
        have a2 : pyAdd (.tuple (ds.take m ++ [y])) (.tuple (ds.drop (m + 1))) = some (.d (.tuple (ds.take m ++ [y] ++ ds.drop (m + 1)))) := add_tups (by simp; omega)
        refine ⟨.tuple (ds.take m ++ [y] ++ ds.drop (m + 1)), g4, ?_, ?_, l4⟩
        · simp only [fm__law_bent', bd__law_bent, bodyRun, startE, slotArg, M.bind, M.pure, M.opt, mK, mVar, mVarB, mFrz, mBin, mUn, look, mBool, mAndT, mOrT, mNotT, mAndV, mOrV, mNotV, mIf, mNil, mCons, mArg, dataOf, mDisp, mSized, lookAll, mCallB, mIsi, mSl, mPart, mRg1, mRg2, mIntOf, mItems, mRange1, mRange2, evInts, rng1, rng2, mEnum, mZip, mNx, mSeqS, mDrop, mRet, mRetV, mIfS, slotOf, mSet, mAsgP, mPar, mFor, mCall, isArg, RV.ev, List.map_cons, List.map_nil, List.length_cons, List.length_nil, List.replicate, List.cons_append, List.nil_append, List.getElem?_cons_zero, List.getElem?_cons_succ, List.set_cons_zero, List.set_cons_succ, Option.map_some, Option.map_none, Bool.not_true, Bool.not_false, if_true, Bool.false_eq_true, if_false, List.append_nil, Nat.sub_self, Nat.reduceAdd, Nat.reduceSub, Nat.add_zero, Nat.zero_add, isi_int_none, isi_int_bool, isi_int_int, isi_int_str, isi_int_list, isi_int_tuple, isi_int_dict, isi_bool_none, isi_bool_bool, isi_bool_int, isi_bool_str, isi_bool_list, isi_bool_tuple, isi_bool_dict, isi_str_none, isi_str_bool, isi_str_int, isi_str_str, isi_str_list, isi_str_tuple, isi_str_dict, isi_tuple_none, isi_tuple_bool, isi_tuple_int, isi_tuple_str, isi_tuple_list, isi_tuple_tuple, isi_tuple_dict, isi_list_none, isi_list_bool, isi_list_int, isi_list_str, isi_list_list, isi_list_tuple, isi_list_dict, s0, he, hd1, p1, ec, len_tup, p2, p3, lt_ints, q2, pySl, k1, pyIx, ha, p4, s1, a1, add_ints, k2, a2, List.all_cons, List.all_nil, Bool.and_self, and_self]
        · refine RL_tup (by simp; omega) fun d hd => ?_
          simp only [List.mem_append, List.mem_singleton] at hd
          rcases hd with (hd | hd) | hd
          · exact hRL d (List.mem_of_mem_take hd)
          · rw [hd]; exact hy
          · exact hRL d (List.mem_of_mem_drop hd)
      | false =>
        have a1 : pyAdd (.tuple (ds.take m)) (.tuple (ds.drop (m + 1))) = some (.d (.tuple (ds.take m ++ ds.drop (m + 1)))) := add_tups (by simp; omega)
        have a2 : pyAdd (.tuple (ds.take (m + 1))) (.tuple (ds.drop m)) = some (.d (.tuple (ds.take (m + 1) ++ ds.drop m))) := add_tups (by simp; omega)
        have s4 : szd [.tuple (ds.take m ++ ds.drop (m + 1)), .tuple (ds.take (m + 1) ++ ds.drop m), .tuple ds.reverse, .list ds] = some [.tuple (ds.take m ++ ds.drop (m + 1)), .tuple (ds.take (m + 1) ++ ds.drop m), .tuple ds.reverse, .list ds] := szd_of (by simp)
        obtain ⟨y, g4, p4, hy, l4⟩ := of_eq [.tuple (ds.take m ++ ds.drop (m + 1)), .tuple (ds.take (m + 1) ++ ds.drop m), .tuple ds.reverse, .list ds] g3 l3 (by simp) (by simp)
        refine ⟨y, g4, ?_, ?_, l4⟩
        · simp only [fm__law_bent', bd__law_bent, bodyRun, startE, slotArg, M.bind, M.pure, M.opt, mK, mVar, mVarB, mFrz, mBin, mUn, look, mBool, mAndT, mOrT, mNotT, mAndV, mOrV, mNotV, mIf, mNil, mCons, mArg, dataOf, mDisp, mSized, lookAll, mCallB, mIsi, mSl, mPart, mRg1, mRg2, mIntOf, mItems, mRange1, mRange2, evInts, rng1, rng2, mEnum, mZip, mNx, mSeqS, mDrop, mRet, mRetV, mIfS, slotOf, mSet, mAsgP, mPar, mFor, mCall, isArg, RV.ev, List.map_cons, List.map_nil, List.length_cons, List.length_nil, List.replicate, List.cons_append, List.nil_append, List.getElem?_cons_zero, List.getElem?_cons_succ, List.set_cons_zero, List.set_cons_succ, Option.map_some, Option.map_none, Bool.not_true, Bool.not_false, if_true, Bool.false_eq_true, if_false, List.append_nil, Nat.sub_self, Nat.reduceAdd, Nat.reduceSub, Nat.add_zero, Nat.zero_add, isi_int_none, isi_int_bool, isi_int_int, isi_int_str, isi_int_list, isi_int_tuple, isi_int_dict, isi_bool_none, isi_bool_bool, isi_bool_int, isi_bool_str, isi_bool_list, isi_bool_tuple, isi_bool_dict, isi_str_none, isi_str_bool, isi_str_int, isi_str_str, isi_str_list, isi_str_tuple, isi_str_dict, isi_tuple_none, isi_tuple_bool, isi_tuple_int, isi_tuple_str, isi_tuple_list, isi_tuple_tuple, isi_tuple_dict, isi_list_none, isi_list_bool, isi_list_int, isi_list_str, isi_list_list, isi_list_tuple, isi_list_dict, s0, he, hd1, p1, ec, len_tup, p2, p3, lt_ints, q2, pySl, k1, k2, k3, k4, a1, a2, add_ints, pyRev, pyListOf, s4, p4, List.all_cons, List.all_nil, Bool.and_self, and_self]
        · simp only [List.mem_cons, List.not_mem_nil, or_false] at hy
          rcases hy with rfl | rfl | rfl | rfl
          · refine RL_tup (by simp; omega) fun d hd => ?_
            simp only [List.mem_append] at hd
            exact hd.elim (fun hd => hRL d (List.mem_of_mem_take hd)) fun hd => hRL d (List.mem_of_mem_drop hd)
          · refine RL_tup (by simp; omega) fun d hd => ?_
            simp only [List.mem_append] at hd
            exact hd.elim (fun hd => hRL d (List.mem_of_mem_take hd)) fun hd => hRL d (List.mem_of_mem_drop hd)
          · exact RL_tup (by simp; omega) fun d hd => hRL d (by simpa using hd)
          · exact RL_lst (by omega) fun d hd => hRL d hd
    | _ => cases k <;> cases h
end Lk56
namespace Lk56
open PySem L2 DL
/-! ### the parts of an order are its parts -/
def cutN (os : List Int) (m : Nat) : Bool := (os.take m).all fun h => decide (h < (m : Int))
def cutsN (os : List Int) : List Nat := (List.range (os.length + 1)).filter (cutN os)
theorem cutsI_eq (os : List Int) : cutsI os = (cutsN os).map fun m : Nat => (m : Int) := by
  unfold cutsI cutsN ints0
  rw [List.filter_map]
  rfl
theorem cutsN_mem {os : List Int} {m : Nat} : m ∈ cutsN os ↔ m ≤ os.length ∧ cutN os m = true := by
  unfold cutsN
  rw [List.mem_filter, List.mem_range]
  constructor
  · rintro ⟨a, b⟩; exact ⟨by omega, b⟩
  · rintro ⟨a, b⟩; exact ⟨by omega, b⟩
theorem cutsN_sorted (os : List Int) : (cutsN os).Pairwise (· < ·) := List.pairwise_lt_range.filter _
theorem cut_lt {os : List Int} {m : Nat} (h : cutN os m = true) {x : Int} (hx : x ∈ os.take m) : x < m := of_decide_eq_true (List.all_eq_true.mp h x hx)
section
variable {os : List Int} (hp : isPerm os = true)
include hp
theorem os_room {x : Int} (hx : x ∈ os) : 0 ≤ x ∧ x < os.length := by
  have := mem_ints0.mp ((perm_ints hp).mem_iff.mp hx)
  exact this
theorem cut_all {m : Nat} (hm : m ≤ os.length) (h : cutN os m = true) : isort (os.take m) = ints0 m := by
  have lt : (os.take m).length = m := by rw [List.length_take]; omega
  have := isort_room (l := os.take m) ((perm_nodup hp).sublist (List.take_sublist _ _)) fun x hx => by
    rw [lt]
    exact ⟨(os_room hp (List.mem_of_mem_take hx)).1, cut_lt h hx⟩
  rw [lt] at this
  exact this
theorem cut_ge {m : Nat} (hm : m ≤ os.length) (h : cutN os m = true) {x : Int} (hx : x ∈ os.drop m) : (m : Int) ≤ x := by
  refine Classical.byContradiction fun z => ?_
  have h0 := (os_room hp (List.mem_of_mem_drop hx)).1
  have h1 : x ∈ os.take m := by
    have : x ∈ ints0 m := mem_ints0.mpr ⟨h0, by omega⟩
    rw [← cut_all hp hm h] at this
    exact isort_mem.mp this
  have nd := perm_nodup hp
  rw [← List.take_append_drop m os, List.nodup_append] at nd
  exact nd.2.2 x h1 x hx rfl
end
def seg (os : List Int) (i j : Nat) : List Int := (os.drop i).take (j - i)
theorem seg_length {os : List Int} {i j : Nat} (hj : j ≤ os.length) : (seg os i j).length = j - i := by
  unfold seg
  rw [List.length_take, List.length_drop]
  omega
theorem seg_heights {os : List Int} {i j : Nat} (hj : j ≤ os.length) : (irange i j).map (at0 os) = seg os i j := by
  unfold irange seg
  rw [List.map_map, show ((j : Int) - (i : Int)).toNat = j - i by omega]
  refine List.ext_getElem (by simp; omega) fun k h1 h2 => ?_
  have hk : k < j - i := by simpa using h1
  simp only [List.getElem_map, List.getElem_range, Function.comp_apply, List.getElem_take, List.getElem_drop]
  unfold at0
  rw [show ((i : Int) + (k : Int)).toNat = i + k by omega, List.getD_eq_getElem?_getD, List.getElem?_eq_getElem (by omega)]
  rfl
def part (os : List Int) (i j : Nat) : List Int := (seg os i j).map fun h => h - i
theorem idx_irange {i j h : Int} (h0 : i ≤ h) (h1 : h < j) : ((irange i j).idxOf h : Nat) = (h - i).toNat := by
  have hk : (h - i).toNat < (irange i j).length := by rw [irange_len]; omega
  have e : (irange i j)[(h - i).toNat] = h := by
    simp only [irange, List.getElem_map, List.getElem_range]
    omega
  have nd : (irange i j).Nodup := by
    unfold irange
    rw [List.nodup_iff_pairwise_ne, List.pairwise_map]
    exact List.nodup_range.imp fun h => by omega
  have := nd.idxOf_getElem (h - i).toNat hk
  rw [e] at this
  exact this
section
variable {os : List Int} (hp : isPerm os = true) {i j : Nat} (hij : i ≤ j) (hj : j ≤ os.length) (ci : cutN os i = true) (cj : cutN os j = true)
include hp hij hj ci cj
theorem seg_room {x : Int} (hx : x ∈ seg os i j) : (i : Int) ≤ x ∧ x < j := by
  unfold seg at hx
  refine ⟨cut_ge hp (by omega) ci (List.mem_of_mem_take hx), cut_lt cj ?_⟩
  have e : os.take j = os.take i ++ (os.drop i).take (j - i) := by
    rw [← List.take_add]
    congr 1
    omega
  rw [e]
  exact List.mem_append_right _ hx
theorem seg_nodup : (seg os i j).Nodup := (perm_nodup hp).sublist ((List.take_sublist _ _).trans (List.drop_sublist _ _))
theorem seg_sorted : isort (seg os i j) = irange i j := by
  have hl := isort_length (seg os i j)
  rw [seg_length hj] at hl
  have h1 := strict_room (isort (seg os i j)) i (strict_of (isort_sorted _) ((List.mergeSort_perm _ _).nodup_iff.mpr (seg_nodup hp hij hj ci cj))) fun x hx => by
    have := seg_room hp hij hj ci cj (isort_mem.mp hx)
    rw [hl]
    omega
  rw [h1, hl]
  unfold irange
  rw [show ((j : Int) - (i : Int)).toNat = j - i by omega]
theorem order_part : orderAt os (irange i j) = part os i j := by
  unfold orderAt part
  rw [seg_heights hj]
  refine List.map_congr_left fun h hh => ?_
  have := seg_room hp hij hj ci cj hh
  unfold rankI
  rw [seg_sorted hp hij hj ci cj, idx_irange this.1 this.2]
  omega
theorem part_length : (part os i j).length = j - i := by unfold part; rw [List.length_map, seg_length hj]
theorem part_room {x : Int} (hx : x ∈ part os i j) : 0 ≤ x ∧ x < ((j - i : Nat) : Int) := by
  obtain ⟨h, hh, rfl⟩ := List.mem_map.mp hx
  have := seg_room hp hij hj ci cj hh
  omega
theorem part_perm : isPerm (part os i j) = true := by
  refine decide_eq_true (isort_room ?_ fun x hx => ?_)
  · unfold part
    rw [List.nodup_iff_pairwise_ne, List.pairwise_map]
    exact (seg_nodup hp hij hj ci cj).imp fun h => by omega
  · rw [part_length hp hij hj ci cj]
    exact part_room hp hij hj ci cj hx
theorem put_part : putI (os.take i) (part os i j) = os.take j := by
  unfold putI part
  rw [List.map_map]
  have e : (seg os i j).map ((fun h : Int => ((os.take i).length : Int) + h) ∘ fun h => h - i) = seg os i j := by
    refine (List.map_congr_left fun h _ => ?_).trans (List.map_id _)
    simp only [Function.comp_apply, id]
    rw [List.length_take, Nat.min_eq_left (by omega)]
    omega
  rw [e]
  unfold seg
  rw [← List.take_add]
  congr 1
  omega
theorem part_cut {k : Nat} (hk : k ≤ j - i) : cutN (part os i j) k = cutN os (i + k) := by
  have e : (part os i j).take k = ((os.drop i).take k).map fun h : Int => h - (i : Int) := by
    unfold part seg
    rw [← List.map_take, List.take_take, Nat.min_eq_left hk]
  have e2 : os.take (i + k) = os.take i ++ (os.drop i).take k := List.take_add
  unfold cutN
  rw [e, e2, List.all_append, List.all_map]
  have h1 : ((os.take i).all fun h => decide (h < ((i + k : Nat) : Int))) = true := List.all_eq_true.mpr fun x hx => decide_eq_true (by have := cut_lt ci hx; omega)
  rw [h1, Bool.true_and]
  congr 1
  funext h
  simp only [Function.comp_apply]
  by_cases q : h - (i : Int) < (k : Int)
  · rw [decide_eq_true q, decide_eq_true (by omega)]
  · rw [decide_eq_false q, decide_eq_false (by omega)]
end
theorem cut_zero (os : List Int) : cutN os 0 = true := rfl
theorem filter_ends {L : Nat} (hL : 0 < L) (p : Nat → Bool) (hp : ∀ k, k ≤ L → (p k = true ↔ k = 0 ∨ k = L)) : (List.range (L + 1)).filter p = [0, L] := by
  rw [List.range_succ, List.filter_append]
  have h1 : (List.range L).filter p = [0] := by
    obtain ⟨M, rfl⟩ : ∃ M, L = M + 1 := ⟨L - 1, by omega⟩
    rw [List.range_succ_eq_map, List.filter_cons, if_pos ((hp 0 (by omega)).mpr (.inl rfl))]
    congr 1
    rw [List.filter_eq_nil_iff]
    intro a ha
    obtain ⟨b, hb, rfl⟩ := List.mem_map.mp ha
    have := List.mem_range.mp hb
    intro z
    rcases (hp _ (by omega)).mp z with q | q <;> omega
  rw [h1, List.filter_cons, if_pos ((hp L (Nat.le_refl _)).mpr (.inr rfl))]
  rfl
theorem zip_split {α : Type} : ∀ (l : List α) (x y : α), (x, y) ∈ List.zip l (l.drop 1) → ∃ a b, l = a ++ x :: y :: b
  | [], x, y, h => by simp at h
  | [c], x, y, h => by simp at h
  | c :: d :: r, x, y, h => by
    have h : (x, y) ∈ (c, d) :: List.zip (d :: r) ((d :: r).drop 1) := h
    rcases List.mem_cons.mp h with q | q
    · cases q; exact ⟨[], r, rfl⟩
    · obtain ⟨a, b, e⟩ := zip_split (d :: r) x y q
      exact ⟨c :: a, b, by rw [e]; rfl⟩
/-- cuts that follow one another -/
theorem next_cuts {os : List Int} {i j : Nat} (h : (i, j) ∈ List.zip (cutsN os) ((cutsN os).drop 1)) : i < j ∧ j ≤ os.length ∧ cutN os i = true ∧ cutN os j = true ∧ ∀ c, i < c → c < j → cutN os c = false := by
  obtain ⟨a, b, e⟩ := zip_split _ _ _ h
  have hs := cutsN_sorted os
  have hi := cutsN_mem.mp (show i ∈ cutsN os by rw [e]; simp)
  have hj := cutsN_mem.mp (show j ∈ cutsN os by rw [e]; simp)
  rw [e, List.pairwise_append] at hs
  obtain ⟨s1, s2, s3⟩ := hs
  obtain ⟨s4, s5⟩ := List.pairwise_cons.mp s2
  obtain ⟨s6, s7⟩ := List.pairwise_cons.mp s5
  have lt := s4 j (by simp)
  refine ⟨lt, hj.1, hi.2, hj.2, fun c h1 h2 => ?_⟩
  refine Bool.eq_false_iff.mpr fun z => ?_
  have hc : c ∈ cutsN os := cutsN_mem.mpr ⟨by omega, z⟩
  rw [e] at hc
  rcases List.mem_append.mp hc with q | q
  · have := s3 c q i (by simp); omega
  · rcases List.mem_cons.mp q with q | q
    · omega
    · rcases List.mem_cons.mp q with q | q
      · omega
      · have := s6 c q; omega
theorem parts_N {os : List Int} (hp : isPerm os = true) : partsI os = (List.zip (cutsN os) ((cutsN os).drop 1)).map fun p => part os p.1 p.2 := by
  unfold partsI
  rw [cutsI_eq, ← List.map_drop, List.zip_map, List.map_map]
  refine List.map_congr_left fun p hm => ?_
  obtain ⟨i, j⟩ := p
  obtain ⟨h1, h2, h3, h4, _⟩ := next_cuts hm
  exact order_part hp (by omega) h2 h3 h4
theorem part_unb {os : List Int} (hp : isPerm os = true) {i j : Nat} (h : (i, j) ∈ List.zip (cutsN os) ((cutsN os).drop 1)) : unb (part os i j) = true := by
  obtain ⟨h1, h2, h3, h4, h5⟩ := next_cuts h
  have hl := part_length hp (by omega) h2 h3 h4
  have e : cutsN (part os i j) = [0, j - i] := by
    unfold cutsN
    rw [hl]
    refine filter_ends (by omega) _ fun k hk => ?_
    rw [part_cut hp (by omega) h2 h3 h4 hk]
    constructor
    · intro z
      refine Classical.byContradiction fun n => ?_
      rw [not_or] at n
      rw [h5 (i + k) (by omega) (by omega)] at z
      cases z
    · rintro (rfl | rfl)
      · exact h3
      · rw [show i + (j - i) = j by omega]; exact h4
  unfold unb partsI
  rw [cutsI_eq, e]
  rfl
theorem put_chain {os : List Int} (hp : isPerm os = true) : ∀ (cs : List Nat) (c : Nat), (∀ p ∈ List.zip (c :: cs) cs, p.1 < p.2 ∧ p.2 ≤ os.length ∧ cutN os p.1 = true ∧ cutN os p.2 = true) →
    ((List.zip (c :: cs) cs).map fun p => part os p.1 p.2).foldl putI (os.take c) = os.take ((c :: cs).getLast (List.cons_ne_nil _ _))
  | [], c, _ => rfl
  | d :: cs, c, h => by
    obtain ⟨h1, h2, h3, h4⟩ := h (c, d) (by simp)
    have ih := put_chain hp cs d fun p hm => h p (by
      show p ∈ (c, d) :: List.zip (d :: cs) cs
      exact List.mem_cons_of_mem _ hm)
    show ((List.zip (d :: cs) cs).map fun p => part os p.1 p.2).foldl putI (putI (os.take c) (part os c d)) = _
    rw [put_part hp (by omega) h2 h3 h4, ih]
    rw [List.getLast_cons (List.cons_ne_nil d cs)]
theorem cuts_ends {os : List Int} (hp : isPerm os = true) : ∃ cs, cutsN os = 0 :: cs ∧ (0 :: cs).getLast (List.cons_ne_nil _ _) = os.length := by
  have h0 : cutsN os = 0 :: ((List.range os.length).map Nat.succ).filter (cutN os) := by
    unfold cutsN
    rw [List.range_succ_eq_map, List.filter_cons, if_pos (cut_zero os)]
  have hn : cutN os os.length = true := by
    unfold cutN
    rw [List.take_length]
    exact List.all_eq_true.mpr fun x hx => decide_eq_true (os_room hp hx).2
  have h1 : cutsN os = (List.range os.length).filter (cutN os) ++ [os.length] := by
    unfold cutsN
    rw [List.range_succ, List.filter_append, List.filter_cons, if_pos hn]
    rfl
  refine ⟨_, h0, ?_⟩
  have h2 : cutsN os ≠ [] := by rw [h0]; simp
  have h3 : (cutsN os).getLast h2 = os.length := by
    simp only [h1]
    exact List.getLast_concat
  simpa only [h0] using h3
/-- THE PARTS: orders, not to be parted, put together again -/
theorem parts_told {os : List Int} (hp : isPerm os = true) : (∀ n ∈ partsI os, isPerm n = true ∧ n.length ≤ os.length ∧ ∀ x ∈ n, 0 ≤ x ∧ x < os.length) ∧ (partsI os).length ≤ os.length ∧ told os (partsI os) = .none := by
  have hall : ∀ n ∈ partsI os, isPerm n = true ∧ n.length ≤ os.length ∧ (∀ x ∈ n, 0 ≤ x ∧ x < os.length) ∧ unb n = true := fun n hn => by
    rw [parts_N hp] at hn
    obtain ⟨⟨i, j⟩, hm, rfl⟩ := List.mem_map.mp hn
    obtain ⟨h1, h2, h3, h4, _⟩ := next_cuts hm
    refine ⟨part_perm hp (by omega) h2 h3 h4, by rw [part_length hp (by omega) h2 h3 h4]; omega, fun x hx => ?_, part_unb hp hm⟩
    have := part_room hp (by omega) h2 h3 h4 hx
    omega
  have hb : badAt (partsI os) = none := by
    unfold badAt
    rw [Option.map_eq_none_iff, List.find?_eq_none]
    intro p hm
    simp [(hall _ (enumL_mem hm)).2.2.2]
  have hput : putAll (partsI os) = os := by
    obtain ⟨cs, e1, e2⟩ := cuts_ends hp
    unfold putAll
    rw [parts_N hp]
    have h := put_chain hp cs 0 fun p hm => by
      obtain ⟨i, j⟩ := p
      obtain ⟨h1, h2, h3, h4, _⟩ := next_cuts (os := os) (i := i) (j := j) (by rw [e1]; exact hm)
      exact ⟨h1, h2, h3, h4⟩
    rw [e1]
    rw [e2] at h
    rw [List.take_length] at h
    exact h
  refine ⟨fun n hn => ⟨(hall n hn).1, (hall n hn).2.1, (hall n hn).2.2.1⟩, ?_, ?_⟩
  · unfold partsI
    rw [List.length_map, List.length_zip, List.length_drop]
    have := cuts_len os
    omega
  · unfold told
    rw [hb]
    simp [hput]
end Lk56
namespace Lk56
open PySem L2 DL
/-! ### what repr asks of the words -/
theorem shown_tup {b k : Nat} {ds : List PyData} (h : ∀ d ∈ ds, d.showable = true ∧ d.depth ≤ k ∧ d.shown.length ≤ b) : (PyData.tuple ds).showable = true ∧ (PyData.tuple ds).depth ≤ k + 1 ∧ (PyData.tuple ds).shown.length ≤ 4 + ds.length * (b + 2) := by
  refine ⟨by simpa [PyData.showable] using showableAll_of fun d hd => (h d hd).1, ?_, ?_⟩
  · have := depthAll_le fun d hd => (h d hd).2.1
    simp only [PyData.depth]
    omega
  · have := tupleText_le (b := b) (ts := PyData.shownAll ds) fun t ht => by
      obtain ⟨d, hd, rfl⟩ := shownAll_mem ht
      exact (h d hd).2.2
    rw [shownAll_len] at this
    simp only [PyData.shown]
    exact this
theorem made_repr {ns : List Int} (h1 : ns.length ≤ 1000) (h2 : ∀ x ∈ ns, x.natAbs < 10 ^ 40) : reprOk (.tuple [.str "made", ti ns]) = true := by
  have a := shown_tup (b := 60) (k := 1) (ds := ns.map .int) fun d hd => by
    obtain ⟨i, hi, rfl⟩ := List.mem_map.mp hd
    obtain ⟨q1, q2, q3⟩ := atom_shown (x := .int i) (decide_eq_true (h2 i hi))
    exact ⟨q1, q2, q3⟩
  rw [List.length_map] at a
  replace a : (ti ns).showable = true ∧ (ti ns).depth ≤ 2 ∧ (ti ns).shown.length ≤ 4 + ns.length * 62 := a
  have hm : atomOk (.str "made") = true := by decide +kernel
  obtain ⟨m1, m2, m3⟩ := atom_shown hm
  obtain ⟨b1, b2, b3⟩ := shown_tup (b := 62004) (k := 2) (ds := [.str "made", ti ns]) fun d hd => by
    simp only [List.mem_cons, List.not_mem_nil, or_false] at hd
    rcases hd with rfl | rfl
    · exact ⟨m1, by omega, by omega⟩
    · exact ⟨a.1, by omega, by have := a.2.2; have : ns.length * 62 ≤ 1000 * 62 := Nat.mul_le_mul_right _ h1; omega⟩
  unfold reprOk
  rw [b1, decide_eq_true (show (PyData.tuple [.str "made", ti ns]).depth ≤ 60 by omega), decide_eq_true (show (PyData.tuple [.str "made", ti ns]).shown.length ≤ sizeLine by
    rw [sizeLine_eq]
    have e : [PyData.str "made", ti ns].length = 2 := rfl
    rw [e] at b3
    omega)]
  rfl
theorem none_repr : reprOk .none = true := RL_repr (by decide +kernel)
theorem form_repr : reprOk form = true := RL_repr (by decide +kernel)
theorem breaks_repr {i : Int} (h : i.natAbs < 10 ^ 40) : reprOk (.tuple [.str "breaks", .int i]) = true := by
  refine RL_repr (RL_le (j := 1) (RL_tup (by simp) fun d hd => ?_) (by omega))
  simp only [List.mem_cons, List.not_mem_nil, or_false] at hd
  rcases hd with rfl | rfl
  · decide +kernel
  · exact decide_eq_true h
theorem enumL_fst : ∀ {nss : List (List Int)} {k : Nat} {p : Int × List Int}, p ∈ enumL k nss → 0 ≤ p.1 ∧ p.1 < ((k + nss.length : Nat) : Int)
  | n :: r, k, p, h => by
    rw [enumL] at h
    rcases List.mem_cons.mp h with q | q
    · rw [q]; simp; omega
    · have := enumL_fst q
      rw [List.length_cons]
      omega
theorem lens_le : ∀ {nss : List (List Int)}, (∀ n ∈ nss, n.length ≤ 12) → lens nss ≤ 12 * nss.length
  | [], _ => by simp [lens]
  | n :: r, h => by
    have h1 := h n (by simp)
    have h2 := lens_le (nss := r) fun x hx => h x (List.mem_cons_of_mem _ hx)
    simp [lens] at h2 ⊢
    omega
theorem put_small : ∀ (nss : List (List Int)) (acc : List Int) (b : Nat), (∀ n ∈ nss, ∀ x ∈ n, 0 ≤ x ∧ x < 1000) → (∀ x ∈ acc, 0 ≤ x ∧ x < (b : Int)) → 2000 ≤ b → acc.length + lens nss ≤ 1000 → ∀ x ∈ nss.foldl putI acc, 0 ≤ x ∧ x < (b : Int)
  | [], acc, b, _, h, _, _ => h
  | n :: r, acc, b, h1, h2, hb, hz => by
    refine put_small r (putI acc n) b (fun m hm => h1 m (List.mem_cons_of_mem _ hm)) (fun x hx => ?_) hb (by rw [put_len]; simp [lens] at hz ⊢; omega)
    rcases List.mem_append.mp hx with q | q
    · exact h2 x q
    · obtain ⟨y, hy, rfl⟩ := List.mem_map.mp q
      have := h1 n (by simp) y hy
      simp [lens] at hz
      omega
theorem told_repr {os : List Int} {nss : List (List Int)} (hp : ∀ n ∈ nss, isPerm n = true) (h1 : nss.length ≤ 12) (h2 : ∀ n ∈ nss, n.length ≤ 12) : reprOk (told os nss) = true := by
  have hl := lens_le h2
  unfold told
  cases q : badAt nss with
  | some i =>
    refine breaks_repr ?_
    unfold badAt at q
    obtain ⟨p, hpm, rfl⟩ := Option.map_eq_some_iff.mp q
    have := enumL_fst (List.mem_of_find?_eq_some hpm)
    exact Nat.lt_of_le_of_lt (show p.1.natAbs ≤ 100 by omega) (by decide)
  | none =>
    dsimp only
    split
    · exact none_repr
    · refine made_repr ?_ fun x hx => ?_
      · unfold putAll
        rw [put_fold_len]
        simp
        omega
      · have := put_small nss [] 2000 (fun n hn y hy => by have := os_room (hp n hn) hy; have := h2 n hn; omega) (by simp) (by omega) (by simp; omega) x hx
        exact Nat.lt_of_le_of_lt (show x.natAbs ≤ 2000 by omega) (by decide)
/-! ### one value looked at -/
theorem RL_sz {x : PyData} (h : RL 4 x = true) : Sz x ∧ (∀ nss : List (List Int), x = .tuple (nss.map ti) → nss.length ≤ 12 ∧ ∀ n ∈ nss, n.length ≤ 12) := by
  have tup : ∀ (k : Nat) (ds : List PyData), RL (k + 1) (.tuple ds) = true → ds.length ≤ 12 ∧ ∀ d ∈ ds, RL k d = true := fun k ds h => by
    unfold RL at h
    rw [Bool.or_eq_true] at h
    rcases h with h | h
    · cases h
    · have h : (decide (ds.length ≤ 12) && ds.all (RL k)) = true := h
      rw [Bool.and_eq_true, decide_eq_true_eq, List.all_eq_true] at h
      exact h
  refine ⟨fun ds e => ?_, fun nss e => ?_⟩
  · subst e
    obtain ⟨h1, h2⟩ := tup 3 ds h
    refine ⟨by omega, fun d hd es e => ?_⟩
    subst e
    have := (tup 2 es (h2 _ hd)).1
    omega
  · subst e
    obtain ⟨h1, h2⟩ := tup 3 _ h
    rw [List.length_map] at h1
    refine ⟨h1, fun n hn => ?_⟩
    have := (tup 2 _ (h2 (ti n) (List.mem_map.mpr ⟨n, hn, rfl⟩))).1
    rw [List.length_map] at this
    exact this
abbrev lv (ns : List Int) (s3 s4 s6 s7 s9 s10 s12 s14 s15 : Slot) : Env' := [.scr ns, .src false, .d (.list oddL), s3, s4, .un, s6, s7, .un, s9, s10, .un, s12, .un, s14, s15]
theorem ne_str (a : Str) : pyNe (.str a) (.str a) = some (.d (.bool false)) := by
  have : eqOk (.str a) (.str a) = true := by simp [eqOk, texts2]
  simp [pyNe, this, PyData.eqv]
theorem look_one (ns os : List Int) (x : PyData) (g : G) (s3 s4 s7 s9 s10 s14 s15 : Slot) (h : RL 4 x = true) : ∃ t14 t15, lb_law_1 (lv ns s3 s4 (.d (ti os)) s7 s9 s10 (.d x) s14 s15) g = .ok .nx (lv ns s3 s4 (.d (ti os)) s7 s9 s10 (.d x) t14 t15) g := by
  obtain ⟨hz, hn⟩ := RL_sz h
  obtain ⟨w, j1, j2, hw⟩ := one_word g os x hz fun nss e => by
    obtain ⟨h1, h2⟩ := hn nss e
    have := lens_le h2
    omega
  have rx := RL_repr h
  have rw1 : reprOk w = true := by
    rcases hw with rfl | ⟨nss, rfl, hp, rfl⟩
    · exact form_repr
    · obtain ⟨h1, h2⟩ := hn nss rfl
      exact told_repr hp h1 h2
  refine ⟨.d (.str x.shown), .d w, ?_⟩
  simp only [lb_law_1, bodyRun, startE, slotArg, M.bind, M.pure, M.opt, mK, mVar, mVarB, mFrz, mBin, mUn, look, mBool, mAndT, mOrT, mNotT, mAndV, mOrV, mNotV, mIf, mNil, mCons, mArg, dataOf, mDisp, mSized, lookAll, mCallB, mIsi, mSl, mPart, mRg1, mRg2, mIntOf, mItems, mRange1, mRange2, evInts, rng1, rng2, mEnum, mZip, mNx, mSeqS, mDrop, mRet, mRetV, mIfS, slotOf, mSet, mAsgP, mPar, mFor, mCall, isArg, RV.ev, List.map_cons, List.map_nil, List.length_cons, List.length_nil, List.replicate, List.cons_append, List.nil_append, List.getElem?_cons_zero, List.getElem?_cons_succ, List.set_cons_zero, List.set_cons_succ, Option.map_some, Option.map_none, Bool.not_true, Bool.not_false, if_true, Bool.false_eq_true, if_false, List.append_nil, Nat.sub_self, Nat.reduceAdd, Nat.reduceSub, Nat.add_zero, Nat.zero_add, mRepr, pyRepr1, rx, rw1, j1, j2, ne_str, List.all_cons, List.all_nil, Bool.and_self, and_self]
end Lk56
namespace Lk56
open PySem L2 DL
section
variable (ns : List Int)
/-- all values, one by one -/
theorem look_all (os : List Int) (g : G) (s3 s4 s7 s9 s10 : Slot) : ∀ (xs : List PyData) (s12 s14 s15 : Slot), (∀ x ∈ xs, RL 4 x = true) → ∃ t12 t14 t15, forD (.nm 12) lb_law_1 xs (lv ns s3 s4 (.d (ti os)) s7 s9 s10 s12 s14 s15) g = .ok .nx (lv ns s3 s4 (.d (ti os)) s7 s9 s10 t12 t14 t15) g
  | [], s12, s14, s15, _ => ⟨s12, s14, s15, rfl⟩
  | x :: xs, s12, s14, s15, h => by
    obtain ⟨u14, u15, h1⟩ := look_one ns os x g s3 s4 s7 s9 s10 s14 s15 (h x (by simp))
    obtain ⟨t12, t14, t15, ih⟩ := look_all os g s3 s4 s7 s9 s10 xs (.d x) u14 u15 fun y hy => h y (List.mem_cons_of_mem _ hy)
    refine ⟨t12, t14, t15, ?_⟩
    have ha : asg (.nm 12) x (lv ns s3 s4 (.d (ti os)) s7 s9 s10 s12 s14 s15) = some (lv ns s3 s4 (.d (ti os)) s7 s9 s10 (.d x) s14 s15) := rfl
    unfold forD
    rw [ha]
    dsimp only
    rw [bind_eq h1]
    exact ih
/-- a comprehension over a range that draws: some -/
theorem draw_loop (s3 s4 s6 s7 s9 s10 s12 s14 s15 : Slot) : ∀ (xs : List PyData) (acc : List PyData) (g : G), acc.length + xs.length ≤ 1000 → Live g → ∃ (out : List (List Int)) (g' : G),
    loopC (.nm 5) [5] mYes (M.bind (mCall 2 fm__law_order (mCons (mArg (mVar 1)) (mCons (mArg (mCall 2 fm__law_pick (mCons (mArg (mVar 1)) (mCons (mArg (mK (.int 4))) mNil)))) mNil))) mFrz) xs acc (lv ns s3 s4 s6 s7 s9 s10 s12 s14 s15) g = .ok (acc ++ out.map ti) (lv ns s3 s4 s6 s7 s9 s10 s12 s14 s15) g' ∧ out.length = xs.length ∧ (∀ n ∈ out, isPerm n = true ∧ n.length ≤ 3) ∧ Live g'
  | [], acc, g, _, hg => ⟨[], g, by simp [loopC, M.pure], rfl, by simp, hg⟩
  | x :: xs, acc, g, hz, hg => by
    rw [List.length_cons] at hz
    obtain ⟨i, g1, p1, i0, i1, l1⟩ := pick_eq 4 g hg (by omega)
    obtain ⟨k, rfl, hk⟩ := pick_pos (n := 4) (by omega) i0 (by simpa using i1)
    obtain ⟨m, g2, p2, hm, l2⟩ := order_eq k g1 l1 (by omega)
    obtain ⟨out, g', ih, h1, h2, h3⟩ := draw_loop s3 s4 s6 s7 s9 s10 s12 s14 s15 xs (acc ++ [ti m]) g2 (by simp; omega) l2
    have hml : m.length = k := by rw [hm.length_eq, ints0_length]
    have hmp : isPerm m = true := decide_eq_true (isort_room (hm.nodup_iff.mpr (nodup_ints0 k)) fun x hx => by
      have := mem_ints0.mp (hm.mem_iff.mp hx)
      omega)
    refine ⟨m :: out, g', ?_, by simp [h1], fun n hn => ?_, h3⟩
    · have he : (M.bind (mCall 2 fm__law_order (mCons (mArg (mVar 1)) (mCons (mArg (mCall 2 fm__law_pick (mCons (mArg (mVar 1)) (mCons (mArg (mK (.int 4))) mNil)))) mNil))) mFrz) [.scr ns, .src false, .d (.list oddL), s3, s4, .d x, s6, s7, .un, s9, s10, .un, s12, .un, s14, s15] g = .ok (ti m) [.scr ns, .src false, .d (.list oddL), s3, s4, .d x, s6, s7, .un, s9, s10, .un, s12, .un, s14, s15] g2 := by
        simp only [bodyRun, startE, slotArg, M.bind, M.pure, M.opt, mK, mVar, mVarB, mFrz, mBin, mUn, look, mBool, mAndT, mOrT, mNotT, mAndV, mOrV, mNotV, mIf, mNil, mCons, mArg, dataOf, mDisp, mSized, lookAll, mCallB, mIsi, mSl, mPart, mRg1, mRg2, mIntOf, mItems, mRange1, mRange2, evInts, rng1, rng2, mEnum, mZip, mNx, mSeqS, mDrop, mRet, mRetV, mIfS, slotOf, mSet, mAsgP, mPar, mFor, mCall, isArg, RV.ev, List.map_cons, List.map_nil, List.length_cons, List.length_nil, List.replicate, List.cons_append, List.nil_append, List.getElem?_cons_zero, List.getElem?_cons_succ, List.set_cons_zero, List.set_cons_succ, Option.map_some, Option.map_none, Bool.not_true, Bool.not_false, if_true, Bool.false_eq_true, if_false, List.append_nil, Nat.sub_self, Nat.reduceAdd, Nat.reduceSub, Nat.add_zero, Nat.zero_add, p1, p2, List.all_cons, List.all_nil, Bool.and_self, and_self]
      have ha : asg (.nm 5) x (lv ns s3 s4 s6 s7 s9 s10 s12 s14 s15) = some [.scr ns, .src false, .d (.list oddL), s3, s4, .d x, s6, s7, .un, s9, s10, .un, s12, .un, s14, s15] := rfl
      unfold loopC
      rw [ha]
      dsimp only
      rw [bind_eq (e' := [.scr ns, .src false, .d (.list oddL), s3, s4, .d x, s6, s7, .un, s9, s10, .un, s12, .un, s14, s15]) (g' := g) (show mYes _ g = .ok true _ g from rfl), if_pos rfl, bind_eq he, if_pos (by rw [sizeLine_eq]; omega)]
      rw [show wipeE [.scr ns, .src false, .d (.list oddL), s3, s4, .d x, s6, s7, .un, s9, s10, .un, s12, .un, s14, s15] [5] = lv ns s3 s4 s6 s7 s9 s10 s12 s14 s15 from rfl, ih]
      simp
    · rcases List.mem_cons.mp hn with q | q
      · rw [q]; exact ⟨hmp, by omega⟩
      · exact h2 n q
theorem some_eq (s3 s4 s6 s7 s9 s10 s12 s14 s15 : Slot) (g : G) (hg : Live g) : ∃ (out : List (List Int)) (g' : G), cp_law_4 (lv ns s3 s4 s6 s7 s9 s10 s12 s14 s15) g = .ok (.fr (.list (out.map ti))) (lv ns s3 s4 s6 s7 s9 s10 s12 s14 s15) g' ∧ out.length ≤ 3 ∧ (∀ n ∈ out, isPerm n = true ∧ n.length ≤ 3) ∧ Live g' := by
  obtain ⟨i, g1, p1, i0, i1, l1⟩ := pick_eq 3 g hg (by omega)
  obtain ⟨k, rfl, hk⟩ := pick_pos (n := 3) (by omega) i0 (by simpa using i1)
  have hr : rngTo 0 (1 + (k : Int)) = some ((ints0 (1 + k)).map .int) := by
    have := rngTo_nat (n := 1 + k) (by omega)
    simpa using this
  obtain ⟨out, g', L, h1, h2, h3⟩ := draw_loop ns s3 s4 s6 s7 s9 s10 s12 s14 s15 ((ints0 (1 + k)).map .int) [] g1 (by simp [ints0_length]; omega) l1
  refine ⟨out, g', ?_, by rw [h1]; simp [ints0_length]; omega, h2, h3⟩
  have e : (M.bind (mCons (mBin pyAdd (mK (.int 1)) (mCall 2 fm__law_pick (mCons (mArg (mVar 1)) (mCons (mArg (mK (.int 3))) mNil)))) mNil) mRange1) (lv ns s3 s4 s6 s7 s9 s10 s12 s14 s15) g = .ok ((ints0 (1 + k)).map .int) (lv ns s3 s4 s6 s7 s9 s10 s12 s14 s15) g1 := by
    simp only [bodyRun, startE, slotArg, M.bind, M.pure, M.opt, mK, mVar, mVarB, mFrz, mBin, mUn, look, mBool, mAndT, mOrT, mNotT, mAndV, mOrV, mNotV, mIf, mNil, mCons, mArg, dataOf, mDisp, mSized, lookAll, mCallB, mIsi, mSl, mPart, mRg1, mRg2, mIntOf, mItems, mRange1, mRange2, evInts, rng1, rng2, mEnum, mZip, mNx, mSeqS, mDrop, mRet, mRetV, mIfS, slotOf, mSet, mAsgP, mPar, mFor, mCall, isArg, RV.ev, List.map_cons, List.map_nil, List.length_cons, List.length_nil, List.replicate, List.cons_append, List.nil_append, List.getElem?_cons_zero, List.getElem?_cons_succ, List.set_cons_zero, List.set_cons_succ, Option.map_some, Option.map_none, Bool.not_true, Bool.not_false, if_true, Bool.false_eq_true, if_false, List.append_nil, Nat.sub_self, Nat.reduceAdd, Nat.reduceSub, Nat.add_zero, Nat.zero_add, p1, List.all_cons, List.all_nil, Bool.and_self, and_self, add_ints, hr]
  unfold cp_law_4 mComp
  rw [bind_eq e]
  have hbk : (blockOf [5] (loopC (.nm 5) [5] mYes (M.bind (mCall 2 fm__law_order (mCons (mArg (mVar 1)) (mCons (mArg (mCall 2 fm__law_pick (mCons (mArg (mVar 1)) (mCons (mArg (mK (.int 4))) mNil)))) mNil))) mFrz) ((ints0 (1 + k)).map .int) [])) (lv ns s3 s4 s6 s7 s9 s10 s12 s14 s15) g1 = .ok (out.map ti) (lv ns s3 s4 s6 s7 s9 s10 s12 s14 s15) g' := by
    unfold blockOf
    rw [if_pos (show noOwn (lv ns s3 s4 s6 s7 s9 s10 s12 s14 s15) [5] = true from rfl), show wipeE (lv ns s3 s4 s6 s7 s9 s10 s12 s14 s15) [5] = lv ns s3 s4 s6 s7 s9 s10 s12 s14 s15 from rfl, L]
    rfl
  rw [bind_eq hbk]
  rfl
/-- nine bent ones -/
theorem bent_loop (T : PyData) (hT : TL 2 T = true) (s3 s4 s6 s7 s10 s12 s14 s15 : Slot) : ∀ (xs : List PyData) (acc : List PyData) (g : G), acc.length + xs.length ≤ 1000 → Live g → ∃ (out : List PyData) (g' : G),
    loopC (.nm 13) [13] mYes (M.bind (mCall 3 fm__law_bent (mCons (mArg (mVar 1)) (mCons (mArg (mVar 9)) (mCons (mArg (mVar 2)) mNil)))) mFrz) xs acc (lv ns s3 s4 s6 s7 (.d T) s10 s12 s14 s15) g = .ok (acc ++ out) (lv ns s3 s4 s6 s7 (.d T) s10 s12 s14 s15) g' ∧ out.length = xs.length ∧ (∀ y ∈ out, RL 4 y = true) ∧ Live g'
  | [], acc, g, _, hg => ⟨[], g, by simp [loopC, M.pure], rfl, by simp, hg⟩
  | x :: xs, acc, g, hz, hg => by
    rw [List.length_cons] at hz
    obtain ⟨y, g1, p1, hy, l1⟩ := bent_eq 2 8 T g hT (by omega) (by omega) hg
    obtain ⟨out, g', ih, h1, h2, h3⟩ := bent_loop T hT s3 s4 s6 s7 s10 s12 s14 s15 xs (acc ++ [y]) g1 (by simp; omega) l1
    refine ⟨y :: out, g', ?_, by simp [h1], fun n hn => ?_, h3⟩
    · have he : (M.bind (mCall 3 fm__law_bent (mCons (mArg (mVar 1)) (mCons (mArg (mVar 9)) (mCons (mArg (mVar 2)) mNil)))) mFrz) [.scr ns, .src false, .d (.list oddL), s3, s4, .un, s6, s7, .un, .d T, s10, .un, s12, .d x, s14, s15] g = .ok y [.scr ns, .src false, .d (.list oddL), s3, s4, .un, s6, s7, .un, .d T, s10, .un, s12, .d x, s14, s15] g1 := by
        simp only [bodyRun, startE, slotArg, M.bind, M.pure, M.opt, mK, mVar, mVarB, mFrz, mBin, mUn, look, mBool, mAndT, mOrT, mNotT, mAndV, mOrV, mNotV, mIf, mNil, mCons, mArg, dataOf, mDisp, mSized, lookAll, mCallB, mIsi, mSl, mPart, mRg1, mRg2, mIntOf, mItems, mRange1, mRange2, evInts, rng1, rng2, mEnum, mZip, mNx, mSeqS, mDrop, mRet, mRetV, mIfS, slotOf, mSet, mAsgP, mPar, mFor, mCall, isArg, RV.ev, List.map_cons, List.map_nil, List.length_cons, List.length_nil, List.replicate, List.cons_append, List.nil_append, List.getElem?_cons_zero, List.getElem?_cons_succ, List.set_cons_zero, List.set_cons_succ, Option.map_some, Option.map_none, Bool.not_true, Bool.not_false, if_true, Bool.false_eq_true, if_false, List.append_nil, Nat.sub_self, Nat.reduceAdd, Nat.reduceSub, Nat.add_zero, Nat.zero_add, fm__law_bent, p1, List.all_cons, List.all_nil, Bool.and_self, and_self]
      have ha : asg (.nm 13) x (lv ns s3 s4 s6 s7 (.d T) s10 s12 s14 s15) = some [.scr ns, .src false, .d (.list oddL), s3, s4, .un, s6, s7, .un, .d T, s10, .un, s12, .d x, s14, s15] := rfl
      unfold loopC
      rw [ha]
      dsimp only
      rw [bind_eq (e' := [.scr ns, .src false, .d (.list oddL), s3, s4, .un, s6, s7, .un, .d T, s10, .un, s12, .d x, s14, s15]) (g' := g) (show mYes _ g = .ok true _ g from rfl), if_pos rfl, bind_eq he, if_pos (by rw [sizeLine_eq]; omega)]
      rw [show wipeE [.scr ns, .src false, .d (.list oddL), s3, s4, .un, s6, s7, .un, .d T, s10, .un, s12, .d x, s14, s15] [13] = lv ns s3 s4 s6 s7 (.d T) s10 s12 s14 s15 from rfl, ih]
      simp
    · rcases List.mem_cons.mp hn with q | q
      · rw [q]; exact hy
      · exact h2 n q
theorem bents_eq (T : PyData) (hT : TL 2 T = true) (s3 s4 s6 s7 s10 s12 s14 s15 : Slot) (g : G) (hg : Live g) : ∃ (out : List PyData) (g' : G), cp_law_1 (lv ns s3 s4 s6 s7 (.d T) s10 s12 s14 s15) g = .ok (.fr (.list out)) (lv ns s3 s4 s6 s7 (.d T) s10 s12 s14 s15) g' ∧ out.length ≤ 9 ∧ (∀ y ∈ out, RL 4 y = true) ∧ Live g' := by
  have hr : rngTo 0 9 = some ((ints0 9).map .int) := rngTo_nat (n := 9) (by omega)
  obtain ⟨out, g', L, h1, h2, h3⟩ := bent_loop ns T hT s3 s4 s6 s7 s10 s12 s14 s15 ((ints0 9).map .int) [] g (by simp [ints0_length]) hg
  refine ⟨out, g', ?_, by rw [h1]; simp [ints0_length], h2, h3⟩
  have e : (M.bind (mCons (mK (.int 9)) mNil) mRange1) (lv ns s3 s4 s6 s7 (.d T) s10 s12 s14 s15) g = .ok ((ints0 9).map .int) (lv ns s3 s4 s6 s7 (.d T) s10 s12 s14 s15) g := by
    simp only [bodyRun, startE, slotArg, M.bind, M.pure, M.opt, mK, mVar, mVarB, mFrz, mBin, mUn, look, mBool, mAndT, mOrT, mNotT, mAndV, mOrV, mNotV, mIf, mNil, mCons, mArg, dataOf, mDisp, mSized, lookAll, mCallB, mIsi, mSl, mPart, mRg1, mRg2, mIntOf, mItems, mRange1, mRange2, evInts, rng1, rng2, mEnum, mZip, mNx, mSeqS, mDrop, mRet, mRetV, mIfS, slotOf, mSet, mAsgP, mPar, mFor, mCall, isArg, RV.ev, List.map_cons, List.map_nil, List.length_cons, List.length_nil, List.replicate, List.cons_append, List.nil_append, List.getElem?_cons_zero, List.getElem?_cons_succ, List.set_cons_zero, List.set_cons_succ, Option.map_some, Option.map_none, Bool.not_true, Bool.not_false, if_true, Bool.false_eq_true, if_false, List.append_nil, Nat.sub_self, Nat.reduceAdd, Nat.reduceSub, Nat.add_zero, Nat.zero_add, hr]
  unfold cp_law_1 mComp
  rw [bind_eq e]
  have hbk : (blockOf [13] (loopC (.nm 13) [13] mYes (M.bind (mCall 3 fm__law_bent (mCons (mArg (mVar 1)) (mCons (mArg (mVar 9)) (mCons (mArg (mVar 2)) mNil)))) mFrz) ((ints0 9).map .int) [])) (lv ns s3 s4 s6 s7 (.d T) s10 s12 s14 s15) g = .ok out (lv ns s3 s4 s6 s7 (.d T) s10 s12 s14 s15) g' := by
    unfold blockOf
    rw [if_pos (show noOwn (lv ns s3 s4 s6 s7 (.d T) s10 s12 s14 s15) [13] = true from rfl), show wipeE (lv ns s3 s4 s6 s7 (.d T) s10 s12 s14 s15) [13] = lv ns s3 s4 s6 s7 (.d T) s10 s12 s14 s15 from rfl, L]
    rfl
  rw [bind_eq hbk]
  rfl
/-- put together -/
theorem lput_c (acc n : List Int) (s3 s4 s9 s10 s12 s14 s15 : Slot) (g : G) (hz : n.length ≤ 2 ^ 24) : cp_law_3 (lv ns s3 s4 (.d (ti acc)) (.d (ti n)) s9 s10 s12 s14 s15) g = .ok (.fr (li (n.map fun h => (acc.length : Int) + h))) (lv ns s3 s4 (.d (ti acc)) (.d (ti n)) s9 s10 s12 s14 s15) g := by
  have q : cp_law_3 (lv ns s3 s4 (.d (ti acc)) (.d (ti n)) s9 s10 s12 s14 s15) g = _ := mComp_all (p := .nm 8) (vs := [8]) (ofI fun h => (acc.length : Int) + h) (xs := n.map .int) (g1 := g) rfl rfl (by rw [List.length_map, sizeLine_eq]; omega) fun y hy => by
    obtain ⟨p, hm, rfl⟩ := List.mem_map.mp hy
    refine ⟨[.scr ns, .src false, .d (.list oddL), s3, s4, .un, .d (ti acc), .d (ti n), .d (.int p), s9, s10, .un, s12, .un, s14, s15], rfl, rfl, ?_⟩
    simp only [bodyRun, startE, slotArg, M.bind, M.pure, M.opt, mK, mVar, mVarB, mFrz, mBin, mUn, look, mBool, mAndT, mOrT, mNotT, mAndV, mOrV, mNotV, mIf, mNil, mCons, mArg, dataOf, mDisp, mSized, lookAll, mCallB, mIsi, mSl, mPart, mRg1, mRg2, mIntOf, mItems, mRange1, mRange2, evInts, rng1, rng2, mEnum, mZip, mNx, mSeqS, mDrop, mRet, mRetV, mIfS, slotOf, mSet, mAsgP, mPar, mFor, mCall, isArg, RV.ev, List.map_cons, List.map_nil, List.length_cons, List.length_nil, List.replicate, List.cons_append, List.nil_append, List.getElem?_cons_zero, List.getElem?_cons_succ, List.set_cons_zero, List.set_cons_succ, Option.map_some, Option.map_none, Bool.not_true, Bool.not_false, if_true, Bool.false_eq_true, if_false, List.append_nil, Nat.sub_self, Nat.reduceAdd, Nat.reduceSub, Nat.add_zero, Nat.zero_add, len_tup, List.length_map, add_ints, ofI, Int.add_comm]
  rw [map_ofI] at q
  exact q
theorem lput_loop (s3 s4 s9 s10 s12 s14 s15 : Slot) (g : G) : ∀ (nss : List (List Int)) (acc : List Int) (s7 : Slot), acc.length + lens nss ≤ 2 ^ 24 → ∃ t7, forD (.nm 7) lb_law_2 (nss.map ti) (lv ns s3 s4 (.d (ti acc)) s7 s9 s10 s12 s14 s15) g = .ok .nx (lv ns s3 s4 (.d (ti (nss.foldl putI acc))) t7 s9 s10 s12 s14 s15) g
  | [], acc, s7, _ => ⟨s7, rfl⟩
  | n :: r, acc, s7, hz => by
    have hz' : (putI acc n).length + lens r ≤ 2 ^ 24 := by rw [put_len]; simp [lens] at hz ⊢; omega
    have hz2 : acc.length + n.length ≤ 2 ^ 24 := by simp [lens] at hz; omega
    obtain ⟨t7, ih⟩ := lput_loop s3 s4 s9 s10 s12 s14 s15 g r (putI acc n) (.d (ti n)) hz'
    refine ⟨t7, ?_⟩
    have hc := lput_c ns acc n s3 s4 s9 s10 s12 s14 s15 g (by omega)
    have h2 : pyAdd (ti acc) (ti (n.map fun h => (acc.length : Int) + h)) = some (.d (ti (putI acc n))) := by
      rw [add_tups (by simp; omega)]
      simp [putI]
    have hb : lb_law_2 (lv ns s3 s4 (.d (ti acc)) (.d (ti n)) s9 s10 s12 s14 s15) g = .ok .nx (lv ns s3 s4 (.d (ti (putI acc n))) (.d (ti n)) s9 s10 s12 s14 s15) g := by
      simp only [lb_law_2, bodyRun, startE, slotArg, M.bind, M.pure, M.opt, mK, mVar, mVarB, mFrz, mBin, mUn, look, mBool, mAndT, mOrT, mNotT, mAndV, mOrV, mNotV, mIf, mNil, mCons, mArg, dataOf, mDisp, mSized, lookAll, mCallB, mIsi, mSl, mPart, mRg1, mRg2, mIntOf, mItems, mRange1, mRange2, evInts, rng1, rng2, mEnum, mZip, mNx, mSeqS, mDrop, mRet, mRetV, mIfS, slotOf, mSet, mAsgP, mPar, mFor, mCall, isArg, RV.ev, List.map_cons, List.map_nil, List.length_cons, List.length_nil, List.replicate, List.cons_append, List.nil_append, List.getElem?_cons_zero, List.getElem?_cons_succ, List.set_cons_zero, List.set_cons_succ, Option.map_some, Option.map_none, Bool.not_true, Bool.not_false, if_true, Bool.false_eq_true, if_false, List.append_nil, Nat.sub_self, Nat.reduceAdd, Nat.reduceSub, Nat.add_zero, Nat.zero_add, hc, pyTupOf, h2]
    have ha : asg (.nm 7) (ti n) (lv ns s3 s4 (.d (ti acc)) s7 s9 s10 s12 s14 s15) = some (lv ns s3 s4 (.d (ti acc)) (.d (ti n)) s9 s10 s12 s14 s15) := rfl
    rw [List.map_cons]
    unfold forD
    rw [ha]
    dsimp only
    rw [bind_eq hb]
    exact ih
/-- the parts as lists -/
theorem lists_c (T : List PyData) (hl : T.length ≤ 1000) (ht : ∀ t ∈ T, ∃ ds, t = .tuple ds) (s3 s4 s6 s7 s10 s12 s14 s15 : Slot) (g : G) : ∃ f : PyData → PyData, (∀ ds, f (.tuple ds) = .list ds) ∧ cp_law_2 (lv ns s3 s4 s6 s7 (.d (.tuple T)) s10 s12 s14 s15) g = .ok (.fr (.list (T.map f))) (lv ns s3 s4 s6 s7 (.d (.tuple T)) s10 s12 s14 s15) g := by
  refine ⟨fun x => match x with | .tuple ds => .list ds | _ => .none, fun _ => rfl, ?_⟩
  exact mComp_all (p := .nm 11) (vs := [11]) _ (xs := T) (g1 := g) rfl rfl (by rw [sizeLine_eq]; omega) fun y hy => by
    obtain ⟨ds, rfl⟩ := ht y hy
    refine ⟨[.scr ns, .src false, .d (.list oddL), s3, s4, .un, s6, s7, .un, .d (.tuple T), s10, .d (.tuple ds), s12, .un, s14, s15], rfl, rfl, ?_⟩
    simp only [bodyRun, startE, slotArg, M.bind, M.pure, M.opt, mK, mVar, mVarB, mFrz, mBin, mUn, look, mBool, mAndT, mOrT, mNotT, mAndV, mOrV, mNotV, mIf, mNil, mCons, mArg, dataOf, mDisp, mSized, lookAll, mCallB, mIsi, mSl, mPart, mRg1, mRg2, mIntOf, mItems, mRange1, mRange2, evInts, rng1, rng2, mEnum, mZip, mNx, mSeqS, mDrop, mRet, mRetV, mIfS, slotOf, mSet, mAsgP, mPar, mFor, mCall, isArg, RV.ev, List.map_cons, List.map_nil, List.length_cons, List.length_nil, List.replicate, List.cons_append, List.nil_append, List.getElem?_cons_zero, List.getElem?_cons_succ, List.set_cons_zero, List.set_cons_succ, Option.map_some, Option.map_none, Bool.not_true, Bool.not_false, if_true, Bool.false_eq_true, if_false, List.append_nil, Nat.sub_self, Nat.reduceAdd, Nat.reduceSub, Nat.add_zero, Nat.zero_add, pyListOf]
end
end Lk56
namespace Lk56
open PySem L2 DL
theorem cutD_sub {ds : List PyData} {lo hi : Option Int} {x : PyData} (h : x ∈ cutD ds lo hi) : x ∈ ds := List.mem_of_mem_drop (List.mem_of_mem_take h)
theorem cutD_len (ds : List PyData) (lo hi : Option Int) : (cutD ds lo hi).length ≤ ds.length := by
  unfold cutD
  rw [List.length_take, List.length_drop]
  omega
theorem cutD_one (ds : List PyData) : cutD ds none (some 1) = ds.take 1 := by
  unfold cutD
  rw [HT.sIx_none, show HT.sIx ds.length ds.length (some 1) = min 1 ds.length from HT.sIx_nat ds.length ds.length 1, List.drop_zero, Nat.sub_zero]
  cases ds with
  | nil => rfl
  | cons d ds => rw [show min 1 (d :: ds).length = 1 by rw [List.length_cons]; omega]
theorem put_perm {acc n : List Int} (h1 : isPerm acc = true) (h2 : isPerm n = true) : isPerm (putI acc n) = true := by
  refine decide_eq_true (isort_room ?_ fun x hx => ?_)
  · unfold putI
    rw [List.nodup_append]
    refine ⟨perm_nodup h1, ?_, fun a ha b hb => ?_⟩
    · rw [List.nodup_iff_pairwise_ne, List.pairwise_map]
      exact (perm_nodup h2).imp fun h => by omega
    · obtain ⟨c, hc, rfl⟩ := List.mem_map.mp hb
      have := os_room h1 ha
      have := os_room h2 hc
      omega
  · rw [put_len]
    rcases List.mem_append.mp hx with q | q
    · have := os_room h1 q; omega
    · obtain ⟨c, hc, rfl⟩ := List.mem_map.mp q
      have := os_room h2 hc
      omega
theorem put_perms : ∀ (nss : List (List Int)) (acc : List Int), isPerm acc = true → (∀ n ∈ nss, isPerm n = true) → isPerm (nss.foldl putI acc) = true
  | [], acc, h, _ => h
  | n :: r, acc, h, hn => put_perms r (putI acc n) (put_perm h (hn n (by simp))) fun m hm => hn m (List.mem_cons_of_mem _ hm)
theorem nil_perm : isPerm [] = true := decide_eq_true (isort_room (l := []) List.nodup_nil (by simp))
theorem lens3 : ∀ {nss : List (List Int)}, (∀ n ∈ nss, n.length ≤ 3) → lens nss ≤ 3 * nss.length
  | [], _ => by simp [lens]
  | n :: r, h => by
    have h1 := h n (by simp)
    have h2 := lens3 (nss := r) fun x hx => h x (List.mem_cons_of_mem _ hx)
    simp [lens] at h2 ⊢
    omega
theorem TL_ti {n : List Int} (h1 : n.length ≤ 11) (h2 : ∀ x ∈ n, 0 ≤ x ∧ x < 1000) : TL 1 (ti n) = true := by
  show (decide ((n.map PyData.int).length ≤ 11) && (n.map PyData.int).all (TL 0)) = true
  rw [Bool.and_eq_true, decide_eq_true_eq, List.all_eq_true, List.length_map]
  refine ⟨h1, fun d hd => ?_⟩
  obtain ⟨x, hx, rfl⟩ := List.mem_map.mp hd
  have := h2 x hx
  exact decide_eq_true (show x.natAbs ≤ 1000 by omega)
theorem TL_tup {k : Nat} {ds : List PyData} (h1 : ds.length ≤ 11) (h2 : ∀ d ∈ ds, TL k d = true) : TL (k + 1) (.tuple ds) = true := by
  show (decide (ds.length ≤ 11) && ds.all (TL k)) = true
  rw [Bool.and_eq_true, decide_eq_true_eq, List.all_eq_true]
  exact ⟨h1, h2⟩
theorem not_none : pyIs true .none .none = some (.d (.bool false)) := rfl
section
variable (ns : List Int)
theorem lap_eq (s3 s4 s6 s7 s9 s10 s12 s14 s15 : Slot) (g : G) (hg : Live g) : ∃ (t4 t6 t7 t9 t10 t12 t14 t15 : Slot) (g' : G), lb_law_3 (lv ns s3 s4 s6 s7 s9 s10 s12 s14 s15) g = .ok .nx (lv ns s3 t4 t6 t7 t9 t10 t12 t14 t15) g' ∧ Live g' := by
  obtain ⟨somes, g1, hS, hSl, hSp, l1⟩ := some_eq ns s3 s4 s6 s7 s9 s10 s12 s14 s15 g hg
  have hlens := lens3 fun n hn => (hSp n hn).2
  obtain ⟨t7, L7⟩ := lput_loop ns s3 (.d (.list (somes.map ti))) s9 s10 s12 s14 s15 g1 somes [] s7 (by simp; omega)
  let os := putAll somes
  have hos : isPerm os = true := put_perms somes [] nil_perm fun n hn => (hSp n hn).1
  have hol : os.length ≤ 9 := by
    show (putAll somes).length ≤ 9
    unfold putAll
    rw [put_fold_len]
    simp
    omega
  obtain ⟨hP1, hP2, hP3⟩ := parts_told hos
  let T := (partsI os).map ti
  have hTl : T.length ≤ 9 := by show ((partsI os).map ti).length ≤ 9; rw [List.length_map]; omega
  have hparts := parts_of_eq os g1 (by omega)
  have hlp : lens (partsI os) ≤ 2 ^ 24 := by
    have := lens_le (nss := partsI os) fun n hn => by have := (hP1 n hn).2.1; omega
    omega
  have hj := judge_told os g1 (partsI os) (fun n hn => (hP1 n hn).1) (by omega) (fun n hn => by have := (hP1 n hn).2.1; omega) hlp
  have hf := fault_told g1 os (partsI os) (fun n hn => (hP1 n hn).1) (by omega) (fun n hn => by have := (hP1 n hn).2.1; omega) hlp
  rw [hP3] at hj hf
  have hT1 : ∀ t ∈ T, TL 1 t = true := fun t ht => by
    obtain ⟨n, hn, rfl⟩ := List.mem_map.mp ht
    obtain ⟨_, q2, q3⟩ := hP1 n hn
    exact TL_ti (by omega) fun x hx => by have := q3 x hx; omega
  have hT : TL 2 (.tuple T) = true := TL_tup (by omega) hT1
  have hR1 : ∀ t ∈ T, RL 1 t = true := fun t ht => TL_RL 1 t (hT1 t ht)
  have hoR : RL 1 (ti os) = true := TL_RL 1 _ (TL_ti (by omega) fun x hx => by have := os_room hos hx; omega)
  obtain ⟨out, g2, hM, hMp, l2⟩ := mixed_eq T g1 l1 (by omega)
  -- the statements, one by one
  have A1 : mSet 4 (mArg cp_law_4) (lv ns s3 s4 s6 s7 s9 s10 s12 s14 s15) g = .ok .nx (lv ns s3 (.d (.list (somes.map ti))) s6 s7 s9 s10 s12 s14 s15) g1 := by
    simp only [bodyRun, startE, slotArg, M.bind, M.pure, M.opt, mK, mVar, mVarB, mFrz, mBin, mUn, look, mBool, mAndT, mOrT, mNotT, mAndV, mOrV, mNotV, mIf, mNil, mCons, mArg, dataOf, mDisp, mSized, lookAll, mCallB, mIsi, mSl, mPart, mRg1, mRg2, mIntOf, mItems, mRange1, mRange2, evInts, rng1, rng2, mEnum, mZip, mNx, mSeqS, mDrop, mRet, mRetV, mIfS, slotOf, mSet, mAsgP, mPar, mFor, mCall, isArg, RV.ev, List.map_cons, List.map_nil, List.length_cons, List.length_nil, List.replicate, List.cons_append, List.nil_append, List.getElem?_cons_zero, List.getElem?_cons_succ, List.set_cons_zero, List.set_cons_succ, Option.map_some, Option.map_none, Bool.not_true, Bool.not_false, if_true, Bool.false_eq_true, if_false, List.append_nil, Nat.sub_self, Nat.reduceAdd, Nat.reduceSub, Nat.add_zero, Nat.zero_add, hS]
  have z0 : szd ([] : List PyData) = some [] := szd_of (by simp)
  have A2 : mSet 6 (mDisp (fun ds => .d (.tuple ds)) mNil) (lv ns s3 (.d (.list (somes.map ti))) s6 s7 s9 s10 s12 s14 s15) g1 = .ok .nx (lv ns s3 (.d (.list (somes.map ti))) (.d (ti [])) s7 s9 s10 s12 s14 s15) g1 := by
    simp only [bodyRun, startE, slotArg, M.bind, M.pure, M.opt, mK, mVar, mVarB, mFrz, mBin, mUn, look, mBool, mAndT, mOrT, mNotT, mAndV, mOrV, mNotV, mIf, mNil, mCons, mArg, dataOf, mDisp, mSized, lookAll, mCallB, mIsi, mSl, mPart, mRg1, mRg2, mIntOf, mItems, mRange1, mRange2, evInts, rng1, rng2, mEnum, mZip, mNx, mSeqS, mDrop, mRet, mRetV, mIfS, slotOf, mSet, mAsgP, mPar, mFor, mCall, isArg, RV.ev, List.map_cons, List.map_nil, List.length_cons, List.length_nil, List.replicate, List.cons_append, List.nil_append, List.getElem?_cons_zero, List.getElem?_cons_succ, List.set_cons_zero, List.set_cons_succ, Option.map_some, Option.map_none, Bool.not_true, Bool.not_false, if_true, Bool.false_eq_true, if_false, List.append_nil, Nat.sub_self, Nat.reduceAdd, Nat.reduceSub, Nat.add_zero, Nat.zero_add, z0]
    rfl
  have A3 : lp_law_2 (lv ns s3 (.d (.list (somes.map ti))) (.d (ti [])) s7 s9 s10 s12 s14 s15) g1 = .ok .nx (lv ns s3 (.d (.list (somes.map ti))) (.d (ti os)) t7 s9 s10 s12 s14 s15) g1 := L7
  have A4 : mSet 9 (mArg (mCall 1 fm_parts_of (mCons (mArg (mVar 6)) mNil))) (lv ns s3 (.d (.list (somes.map ti))) (.d (ti os)) t7 s9 s10 s12 s14 s15) g1 = .ok .nx (lv ns s3 (.d (.list (somes.map ti))) (.d (ti os)) t7 (.d (.tuple T)) s10 s12 s14 s15) g1 := by
    simp only [bodyRun, startE, slotArg, M.bind, M.pure, M.opt, mK, mVar, mVarB, mFrz, mBin, mUn, look, mBool, mAndT, mOrT, mNotT, mAndV, mOrV, mNotV, mIf, mNil, mCons, mArg, dataOf, mDisp, mSized, lookAll, mCallB, mIsi, mSl, mPart, mRg1, mRg2, mIntOf, mItems, mRange1, mRange2, evInts, rng1, rng2, mEnum, mZip, mNx, mSeqS, mDrop, mRet, mRetV, mIfS, slotOf, mSet, mAsgP, mPar, mFor, mCall, isArg, RV.ev, List.map_cons, List.map_nil, List.length_cons, List.length_nil, List.replicate, List.cons_append, List.nil_append, List.getElem?_cons_zero, List.getElem?_cons_succ, List.set_cons_zero, List.set_cons_succ, Option.map_some, Option.map_none, Bool.not_true, Bool.not_false, if_true, Bool.false_eq_true, if_false, List.append_nil, Nat.sub_self, Nat.reduceAdd, Nat.reduceSub, Nat.add_zero, Nat.zero_add, hparts, List.all_cons, List.all_nil, Bool.and_self, and_self, T]
  have A5 : (mIfS (mOrT (M.bind (mBin (pyIs true) (mCall 2 fm_judge_parts (mCons (mArg (mVar 6)) (mCons (mArg (mVar 9)) mNil))) (mK .none)) mBool) (M.bind (mBin (pyIs true) (mCall 2 fm__law_fault (mCons (mArg (mVar 6)) (mCons (mArg (mVar 9)) mNil))) (mK .none)) mBool)) (mRet (mK (.bool false))) mNx) (lv ns s3 (.d (.list (somes.map ti))) (.d (ti os)) t7 (.d (.tuple T)) s10 s12 s14 s15) g1 = .ok .nx (lv ns s3 (.d (.list (somes.map ti))) (.d (ti os)) t7 (.d (.tuple T)) s10 s12 s14 s15) g1 := by
    simp only [bodyRun, startE, slotArg, M.bind, M.pure, M.opt, mK, mVar, mVarB, mFrz, mBin, mUn, look, mBool, mAndT, mOrT, mNotT, mAndV, mOrV, mNotV, mIf, mNil, mCons, mArg, dataOf, mDisp, mSized, lookAll, mCallB, mIsi, mSl, mPart, mRg1, mRg2, mIntOf, mItems, mRange1, mRange2, evInts, rng1, rng2, mEnum, mZip, mNx, mSeqS, mDrop, mRet, mRetV, mIfS, slotOf, mSet, mAsgP, mPar, mFor, mCall, isArg, RV.ev, List.map_cons, List.map_nil, List.length_cons, List.length_nil, List.replicate, List.cons_append, List.nil_append, List.getElem?_cons_zero, List.getElem?_cons_succ, List.set_cons_zero, List.set_cons_succ, Option.map_some, Option.map_none, Bool.not_true, Bool.not_false, if_true, Bool.false_eq_true, if_false, List.append_nil, Nat.sub_self, Nat.reduceAdd, Nat.reduceSub, Nat.add_zero, Nat.zero_add, T, hj, hf, not_none, List.all_cons, List.all_nil, Bool.and_self, and_self]
  let V1 : List PyData := [.list T, .tuple (cutD T (some 1) none), .tuple (cutD T none (some (-1))), .tuple T.reverse, .tuple (T ++ T.take 1), .tuple (somes.map ti), .tuple [ti os], .tuple [], .none, ti os]
  have zV : szd V1 = some V1 := szd_of (by show 10 ≤ _; omega)
  have z1 : szd [ti os] = some [ti os] := szd_of (by simp)
  have a1 : pyAdd (.tuple T) (.tuple (T.take 1)) = some (.d (.tuple (T ++ T.take 1))) := add_tups (by rw [List.length_take]; omega)
  have A6 : mSet 10 (mArg (mDisp (fun ds => .fr (.list ds)) (mCons (mArg (mCallB pyListOf (mCons (mVarB 9) mNil))) (mCons (mArg (mSl (mVarB 9) (M.bind (M.bind (mK (.int 1)) mFrz) mPart) (M.pure none))) (mCons (mArg (mSl (mVarB 9) (M.pure none) (M.bind (M.bind (mUn pyNeg (mK (.int 1))) mFrz) mPart))) (mCons (mArg (mUn pyRev (mVarB 9))) (mCons (mArg (mBin pyAdd (mVarB 9) (mSl (mVarB 9) (M.pure none) (M.bind (M.bind (mK (.int 1)) mFrz) mPart)))) (mCons (mArg (mCallB pyTupOf (mCons (mVarB 4) mNil))) (mCons (mArg (mDisp (fun ds => .d (.tuple ds)) (mCons (mArg (mVar 6)) mNil))) (mCons (mArg (mDisp (fun ds => .d (.tuple ds)) mNil)) (mCons (mArg (mK .none)) (mCons (mArg (mVar 6)) mNil))))))))))))
      (lv ns s3 (.d (.list (somes.map ti))) (.d (ti os)) t7 (.d (.tuple T)) s10 s12 s14 s15) g1 = .ok .nx (lv ns s3 (.d (.list (somes.map ti))) (.d (ti os)) t7 (.d (.tuple T)) (.d (.list V1)) s12 s14 s15) g1 := by
    simp only [bodyRun, startE, slotArg, M.bind, M.pure, M.opt, mK, mVar, mVarB, mFrz, mBin, mUn, look, mBool, mAndT, mOrT, mNotT, mAndV, mOrV, mNotV, mIf, mNil, mCons, mArg, dataOf, mDisp, mSized, lookAll, mCallB, mIsi, mSl, mPart, mRg1, mRg2, mIntOf, mItems, mRange1, mRange2, evInts, rng1, rng2, mEnum, mZip, mNx, mSeqS, mDrop, mRet, mRetV, mIfS, slotOf, mSet, mAsgP, mPar, mFor, mCall, isArg, RV.ev, List.map_cons, List.map_nil, List.length_cons, List.length_nil, List.replicate, List.cons_append, List.nil_append, List.getElem?_cons_zero, List.getElem?_cons_succ, List.set_cons_zero, List.set_cons_succ, Option.map_some, Option.map_none, Bool.not_true, Bool.not_false, if_true, Bool.false_eq_true, if_false, List.append_nil, Nat.sub_self, Nat.reduceAdd, Nat.reduceSub, Nat.add_zero, Nat.zero_add, pyListOf, pySl, pyNeg, pyRev, cutD_one, a1, pyTupOf, z1, z0]
    rw [zV]
    rfl
  obtain ⟨f, hf1, hLc⟩ := lists_c ns T (by omega) (fun t ht => by obtain ⟨n, hn, rfl⟩ := List.mem_map.mp ht; exact ⟨_, rfl⟩) s3 (.d (.list (somes.map ti))) (.d (ti os)) t7 (.d (.list V1)) s12 s14 s15 g2
  let V2 : List PyData := [.tuple (T ++ [.tuple []]), .tuple out, .tuple (T.map f)]
  have zV2 : szd V2 = some V2 := szd_of (by show 3 ≤ _; omega)
  have z2 : szd [PyData.tuple []] = some [.tuple []] := szd_of (by simp)
  have a2 : pyAdd (.tuple T) (.tuple [.tuple []]) = some (.d (.tuple (T ++ [.tuple []]))) := add_tups (by simp; omega)
  have a3 : pyAdd (.list V1) (.list V2) = some (.fr (.list (V1 ++ V2))) := add_lsts (by show 10 + 3 ≤ _; omega)
  have A7 : mSet 10 (mArg (mBin pyAdd (mVarB 10) (mDisp (fun ds => .fr (.list ds)) (mCons (mArg (mBin pyAdd (mVarB 9) (mDisp (fun ds => .d (.tuple ds)) (mCons (mArg (mDisp (fun ds => .d (.tuple ds)) mNil)) mNil)))) (mCons (mArg (mCallB pyTupOf (mCons (mCall 2 fm__law_mixed (mCons (mArg (mVar 1)) (mCons (mArg (mCallB pyListOf (mCons (mVarB 9) mNil))) mNil))) mNil))) (mCons (mArg (mCallB pyTupOf (mCons cp_law_2 mNil))) mNil))))))
      (lv ns s3 (.d (.list (somes.map ti))) (.d (ti os)) t7 (.d (.tuple T)) (.d (.list V1)) s12 s14 s15) g1 = .ok .nx (lv ns s3 (.d (.list (somes.map ti))) (.d (ti os)) t7 (.d (.tuple T)) (.d (.list (V1 ++ V2))) s12 s14 s15) g2 := by
    have zV2' : szd [.tuple (T ++ [.tuple []]), .tuple out, .tuple (T.map f)] = some V2 := zV2
    simp only [bodyRun, startE, slotArg, M.bind, M.pure, M.opt, mK, mVar, mVarB, mFrz, mBin, mUn, look, mBool, mAndT, mOrT, mNotT, mAndV, mOrV, mNotV, mIf, mNil, mCons, mArg, dataOf, mDisp, mSized, lookAll, mCallB, mIsi, mSl, mPart, mRg1, mRg2, mIntOf, mItems, mRange1, mRange2, evInts, rng1, rng2, mEnum, mZip, mNx, mSeqS, mDrop, mRet, mRetV, mIfS, slotOf, mSet, mAsgP, mPar, mFor, mCall, isArg, RV.ev, List.map_cons, List.map_nil, List.length_cons, List.length_nil, List.replicate, List.cons_append, List.nil_append, List.getElem?_cons_zero, List.getElem?_cons_succ, List.set_cons_zero, List.set_cons_succ, Option.map_some, Option.map_none, Bool.not_true, Bool.not_false, if_true, Bool.false_eq_true, if_false, List.append_nil, Nat.sub_self, Nat.reduceAdd, Nat.reduceSub, Nat.add_zero, Nat.zero_add, z0, z2, a2, pyListOf, hM, List.all_cons, List.all_nil, Bool.and_self, and_self, pyTupOf, hLc, zV2', a3]
  obtain ⟨bents, g3, hB, hBl, hBR, l3⟩ := bents_eq ns (.tuple T) hT s3 (.d (.list (somes.map ti))) (.d (ti os)) t7 (.d (.list (V1 ++ V2))) s12 s14 s15 g2 l2
  have ol : oddL.length = 16 := rfl
  have a4 : pyAdd (.list (V1 ++ V2)) (.list oddL) = some (.fr (.list (V1 ++ V2 ++ oddL))) := add_lsts (by rw [ol]; show 13 + 16 ≤ _; omega)
  have a5 : pyAdd (.list (V1 ++ V2 ++ oddL)) (.list bents) = some (.fr (.list (V1 ++ V2 ++ oddL ++ bents))) := add_lsts (by rw [List.length_append, ol]; show 13 + 16 + bents.length ≤ _; omega)
  have hall : ∀ x ∈ V1 ++ V2 ++ oddL ++ bents, RL 4 x = true := by
    intro x hx
    rcases List.mem_append.mp hx with hx | hx
    · rcases List.mem_append.mp hx with hx | hx
      · rcases List.mem_append.mp hx with hx | hx
        · simp only [V1, List.mem_cons, List.not_mem_nil, or_false] at hx
          rcases hx with rfl | rfl | rfl | rfl | rfl | rfl | rfl | rfl | rfl | rfl
          · exact RL_le (j := 2) (RL_lst (by omega) hR1) (by omega)
          · exact RL_le (j := 2) (RL_tup (by have := cutD_len T (some 1) none; omega) fun d hd => hR1 d (cutD_sub hd)) (by omega)
          · exact RL_le (j := 2) (RL_tup (by have := cutD_len T none (some (-1)); omega) fun d hd => hR1 d (cutD_sub hd)) (by omega)
          · exact RL_le (j := 2) (RL_tup (by rw [List.length_reverse]; omega) fun d hd => hR1 d (by simpa using hd)) (by omega)
          · exact RL_le (j := 2) (RL_tup (by rw [List.length_append, List.length_take]; omega) fun d hd => (List.mem_append.mp hd).elim (hR1 d) fun hd => hR1 d (List.mem_of_mem_take hd)) (by omega)
          · refine RL_le (j := 2) (RL_tup (by rw [List.length_map]; omega) fun d hd => ?_) (by omega)
            obtain ⟨n, hn, rfl⟩ := List.mem_map.mp hd
            obtain ⟨q1, q2⟩ := hSp n hn
            exact TL_RL 1 _ (TL_ti (by omega) fun x hx => by have := os_room q1 hx; omega)
          · exact RL_le (j := 2) (RL_tup (by simp) fun d hd => by rw [List.mem_singleton.mp hd]; exact hoR) (by omega)
          · exact RL_le (j := 1) (RL_tup (by simp) fun d hd => by cases hd) (by omega)
          · exact RL_le (j := 0) rfl (by omega)
          · exact RL_le (j := 1) hoR (by omega)
        · simp only [V2, List.mem_cons, List.not_mem_nil, or_false] at hx
          rcases hx with rfl | rfl | rfl
          · refine RL_le (j := 2) (RL_tup (by simp; omega) fun d hd => ?_) (by omega)
            rcases List.mem_append.mp hd with hd | hd
            · exact hR1 d hd
            · rw [List.mem_singleton.mp hd]
              exact RL_tup (by simp) fun d hd => by cases hd
          · exact RL_le (j := 2) (RL_tup (by rw [hMp.length_eq]; omega) fun d hd => hR1 d (hMp.mem_iff.mp hd)) (by omega)
          · refine RL_le (j := 2) (RL_tup (by rw [List.length_map]; omega) fun d hd => ?_) (by omega)
            obtain ⟨t, ht, rfl⟩ := List.mem_map.mp hd
            obtain ⟨n, hn, rfl⟩ := List.mem_map.mp ht
            rw [hf1]
            obtain ⟨_, q2, q3⟩ := hP1 n hn
            refine RL_lst (by rw [List.length_map]; omega) fun d hd => ?_
            obtain ⟨x, hx, rfl⟩ := List.mem_map.mp hd
            have := q3 x hx
            exact decide_eq_true (Nat.lt_of_le_of_lt (show x.natAbs ≤ 100 by omega) (by decide))
      · exact RL_le (odd_small x hx) (by omega)
    · exact hBR x hx
  obtain ⟨t12, t14, t15, L12⟩ := look_all ns os g3 s3 (.d (.list (somes.map ti))) t7 (.d (.tuple T)) (.d (.list (V1 ++ V2))) (V1 ++ V2 ++ oddL ++ bents) s12 s14 s15 hall
  have e8 : (M.bind (M.bind (mBin pyAdd (mBin pyAdd (mVarB 10) (mVarB 2)) cp_law_1) mFrz) mItems) (lv ns s3 (.d (.list (somes.map ti))) (.d (ti os)) t7 (.d (.tuple T)) (.d (.list (V1 ++ V2))) s12 s14 s15) g2 = .ok (V1 ++ V2 ++ oddL ++ bents) (lv ns s3 (.d (.list (somes.map ti))) (.d (ti os)) t7 (.d (.tuple T)) (.d (.list (V1 ++ V2))) s12 s14 s15) g3 := by
    simp only [bodyRun, startE, slotArg, M.bind, M.pure, M.opt, mK, mVar, mVarB, mFrz, mBin, mUn, look, mBool, mAndT, mOrT, mNotT, mAndV, mOrV, mNotV, mIf, mNil, mCons, mArg, dataOf, mDisp, mSized, lookAll, mCallB, mIsi, mSl, mPart, mRg1, mRg2, mIntOf, mItems, mRange1, mRange2, evInts, rng1, rng2, mEnum, mZip, mNx, mSeqS, mDrop, mRet, mRetV, mIfS, slotOf, mSet, mAsgP, mPar, mFor, mCall, isArg, RV.ev, List.map_cons, List.map_nil, List.length_cons, List.length_nil, List.replicate, List.cons_append, List.nil_append, List.getElem?_cons_zero, List.getElem?_cons_succ, List.set_cons_zero, List.set_cons_succ, Option.map_some, Option.map_none, Bool.not_true, Bool.not_false, if_true, Bool.false_eq_true, if_false, List.append_nil, Nat.sub_self, Nat.reduceAdd, Nat.reduceSub, Nat.add_zero, Nat.zero_add, a4, hB, a5]
  have A8 : lp_law_1 (lv ns s3 (.d (.list (somes.map ti))) (.d (ti os)) t7 (.d (.tuple T)) (.d (.list (V1 ++ V2))) s12 s14 s15) g2 = .ok .nx (lv ns s3 (.d (.list (somes.map ti))) (.d (ti os)) t7 (.d (.tuple T)) (.d (.list (V1 ++ V2))) t12 t14 t15) g3 := by
    unfold lp_law_1 mFor
    rw [bind_eq e8]
    exact L12
  refine ⟨.d (.list (somes.map ti)), .d (ti os), t7, .d (.tuple T), .d (.list (V1 ++ V2)), t12, t14, t15, g3, ?_, l3⟩
  unfold lb_law_3 mSeqS
  rw [bind_eq A1]
  dsimp only
  rw [bind_eq A2]
  dsimp only
  rw [bind_eq A3]
  dsimp only
  rw [bind_eq A4]
  dsimp only
  rw [bind_eq A5]
  dsimp only
  rw [bind_eq A6]
  dsimp only
  rw [bind_eq A7]
  exact A8
theorem laps : ∀ (xs : List PyData) (s3 s4 s6 s7 s9 s10 s12 s14 s15 : Slot) (g : G), Live g → ∃ (t3 t4 t6 t7 t9 t10 t12 t14 t15 : Slot) (g' : G), forD (.nm 3) lb_law_3 xs (lv ns s3 s4 s6 s7 s9 s10 s12 s14 s15) g = .ok .nx (lv ns t3 t4 t6 t7 t9 t10 t12 t14 t15) g' ∧ Live g'
  | [], s3, s4, s6, s7, s9, s10, s12, s14, s15, g, hg => ⟨_, _, _, _, _, _, _, _, _, g, rfl, hg⟩
  | x :: xs, s3, s4, s6, s7, s9, s10, s12, s14, s15, g, hg => by
    obtain ⟨t4, t6, t7, t9, t10, t12, t14, t15, g1, h1, l1⟩ := lap_eq ns (.d x) s4 s6 s7 s9 s10 s12 s14 s15 g hg
    obtain ⟨u3, u4, u6, u7, u9, u10, u12, u14, u15, g', ih, l2⟩ := laps xs (.d x) t4 t6 t7 t9 t10 t12 t14 t15 g1 l1
    refine ⟨u3, u4, u6, u7, u9, u10, u12, u14, u15, g', ?_, l2⟩
    have ha : asg (.nm 3) x (lv ns s3 s4 s6 s7 s9 s10 s12 s14 s15) = some (lv ns (.d x) s4 s6 s7 s9 s10 s12 s14 s15) := rfl
    unfold forD
    rw [ha]
    dsimp only
    rw [bind_eq h1]
    exact ih
end
end Lk56
namespace Lk56
open PySem L2 DL
abbrev e16 (ns : List Int) (s1 s2 : Slot) : Env' := [.scr ns, s1, s2, .un, .un, .un, .un, .un, .un, .un, .un, .un, .un, .un, .un, .un]
theorem parts_len (ns : List Int) : (partsI ns).length = (cutsI ns).length - 1 := by
  unfold partsI
  rw [List.length_map, List.length_zip, List.length_drop]
  omega
theorem last_word (g : G) : fm_judge_parts [.d (ti [1, 0, 2]), .d (.tuple [ti [0], ti [1, 0]])] g = .ok (.d (.tuple [.str "made", ti [0, 2, 1]])) [] g := by
  have p1 : isPerm [0] = true := decide_eq_true (isort_room (l := [0]) (by decide) (by decide))
  have p2 : isPerm [1, 0] = true := decide_eq_true (isort_room (l := [1, 0]) (by decide) (by decide))
  have h := judge_told [1, 0, 2] g [[0], [1, 0]] (fun n hn => by
    simp only [List.mem_cons, List.not_mem_nil, or_false] at hn
    rcases hn with rfl | rfl
    · exact p1
    · exact p2) (by simp) (fun n hn => by
    simp only [List.mem_cons, List.not_mem_nil, or_false] at hn
    rcases hn with rfl | rfl <;> simp) (by decide)
  have u1 : unb [0] = true := by unfold unb; rw [parts_len]; decide +kernel
  have u2 : unb [1, 0] = true := by unfold unb; rw [parts_len]; decide +kernel
  have hb : badAt [[0], [1, 0]] = none := by
    unfold badAt
    simp [enumL, u1, u2]
  have hp : putAll [[0], [1, 0]] = [0, 2, 1] := by decide +kernel
  have ht : told [1, 0, 2] [[0], [1, 0]] = .tuple [.str "made", ti [0, 2, 1]] := by
    unfold told
    rw [hb, hp]
    simp
  rw [ht] at h
  exact h
theorem last_eq : pyEq (.tuple [.str "made", ti [0, 2, 1]]) (.tuple [.str "made", ti [0, 2, 1]]) = some (.d (.bool true)) := by
  have h1 : eqOk (.tuple [.str "made", ti [0, 2, 1]]) (.tuple [.str "made", ti [0, 2, 1]]) = true := by decide +kernel
  have h2 : PyData.eqv (.tuple [.str "made", ti [0, 2, 1]]) (.tuple [.str "made", ti [0, 2, 1]]) = true := by decide +kernel
  unfold pyEq
  rw [h1, h2]
  rfl
def oddM : M EV := (mDisp (fun ds => .fr (.list ds)) (mCons (mArg (mK .none)) (mCons (mArg (mK (.bool true))) (mCons (mArg (mK (.int 0))) (mCons (mArg (mK (.int 1))) (mCons (mArg (mUn pyNeg (mK (.int 1)))) (mCons (mArg (mK (.str "x"))) (mCons (mArg (mDisp (fun ds => .d (.tuple ds)) mNil)) (mCons (mArg (mDisp (fun ds => .d (.tuple ds)) (mCons (mArg (mK (.int 0))) mNil))) (mCons (mArg (mDisp (fun ds => .d (.tuple ds)) (mCons (mArg (mK (.int 0))) (mCons (mArg (mK (.int 1))) mNil)))) (mCons (mArg (mDisp (fun ds => .d (.tuple ds)) (mCons (mArg (mK (.int 1))) (mCons (mArg (mK (.int 0))) mNil)))) (mCons (mArg (mDisp (fun ds => .d (.tuple ds)) (mCons (mArg (mDisp (fun ds => .d (.tuple ds)) (mCons (mArg (mK (.int 0))) mNil))) mNil))) (mCons (mArg (mDisp (fun ds => .d (.tuple ds)) (mCons (mArg (mDisp (fun ds => .d (.tuple ds)) (mCons (mArg (mK (.int 1))) (mCons (mArg (mK (.int 0))) mNil)))) mNil))) (mCons (mArg (mDisp (fun ds => .d (.tuple ds)) (mCons (mArg (mDisp (fun ds => .d (.tuple ds)) (mCons (mArg (mK (.int 0))) (mCons (mArg (mK (.int 0))) mNil)))) mNil))) (mCons (mArg (mDisp (fun ds => .fr (.list ds)) mNil)) (mCons (mArg (M.pure (.fr (.dict [])))) (mCons (mArg (mBin pyPow (mK (.int 10)) (mK (.int 20)))) mNil)))))))))))))))))
theorem odd_eq (e : Env') (g : G) : oddM e g = .ok (.fr (.list oddL)) e g := rfl
def tailM : M EV := (mBin pyEq (mCall 2 fm_judge_parts (mCons (mArg (mDisp (fun ds => .d (.tuple ds)) (mCons (mArg (mK (.int 1))) (mCons (mArg (mK (.int 0))) (mCons (mArg (mK (.int 2))) mNil))))) (mCons (mArg (mDisp (fun ds => .d (.tuple ds)) (mCons (mArg (mDisp (fun ds => .d (.tuple ds)) (mCons (mArg (mK (.int 0))) mNil))) (mCons (mArg (mDisp (fun ds => .d (.tuple ds)) (mCons (mArg (mK (.int 1))) (mCons (mArg (mK (.int 0))) mNil)))) mNil)))) mNil))) (mDisp (fun ds => .d (.tuple ds)) (mCons (mArg (mK (.str "made"))) (mCons (mArg (mDisp (fun ds => .d (.tuple ds)) (mCons (mArg (mK (.int 0))) (mCons (mArg (mK (.int 2))) (mCons (mArg (mK (.int 1))) mNil))))) mNil))))
theorem args_last (e : Env') (g : G) : (mCons (mArg (mDisp (fun ds => .d (.tuple ds)) (mCons (mArg (mK (.int 1))) (mCons (mArg (mK (.int 0))) (mCons (mArg (mK (.int 2))) mNil))))) (mCons (mArg (mDisp (fun ds => .d (.tuple ds)) (mCons (mArg (mDisp (fun ds => .d (.tuple ds)) (mCons (mArg (mK (.int 0))) mNil))) (mCons (mArg (mDisp (fun ds => .d (.tuple ds)) (mCons (mArg (mK (.int 1))) (mCons (mArg (mK (.int 0))) mNil)))) mNil)))) mNil)) e g = .ok [.d (ti [1, 0, 2]), .d (.tuple [ti [0], ti [1, 0]])] e g := rfl
theorem tail_eq (e : Env') (g : G) : tailM e g = .ok (.d (.bool true)) e g := by
  unfold tailM mBin
  rw [bind_eq (mCall_ok (n := 2) (args_last e g) rfl rfl (last_word g))]
  have h2 : (mDisp (fun ds => .d (.tuple ds)) (mCons (mArg (mK (.str "made"))) (mCons (mArg (mDisp (fun ds => .d (.tuple ds)) (mCons (mArg (mK (.int 0))) (mCons (mArg (mK (.int 2))) (mCons (mArg (mK (.int 1))) mNil))))) mNil))) e g = .ok (.d (.tuple [.str "made", ti [0, 2, 1]])) e g := rfl
  rw [bind_eq h2]
  simp only [look, last_eq]
  rfl
theorem law_holds (ns : List Int) (h : ns.length ≤ 63) (hb : ∀ z ∈ ns, Builtin.Int.intBits z ≤ 1048576) : WpF (fm_law [.scr ns] none) fun ev _ => ev = .d (.bool true) := by
  obtain ⟨g1, hs, l1⟩ := source_eq ns h
  have B1 : mSet 1 (mArg (mCall 1 fm__law_source (mCons (mArg (mVar 0)) mNil))) (e16 ns .un .un) none = .ok .nx (e16 ns (.src false) .un) g1 := by
    simp only [bodyRun, startE, slotArg, M.bind, M.pure, M.opt, mK, mVar, mVarB, mFrz, mBin, mUn, look, mBool, mAndT, mOrT, mNotT, mAndV, mOrV, mNotV, mIf, mNil, mCons, mArg, dataOf, mDisp, mSized, lookAll, mCallB, mIsi, mSl, mPart, mRg1, mRg2, mIntOf, mItems, mRange1, mRange2, evInts, rng1, rng2, mEnum, mZip, mNx, mSeqS, mDrop, mRet, mRetV, mIfS, slotOf, mSet, mAsgP, mPar, mFor, mCall, isArg, RV.ev, List.map_cons, List.map_nil, List.length_cons, List.length_nil, List.replicate, List.cons_append, List.nil_append, List.getElem?_cons_zero, List.getElem?_cons_succ, List.set_cons_zero, List.set_cons_succ, Option.map_some, Option.map_none, Bool.not_true, Bool.not_false, if_true, Bool.false_eq_true, if_false, List.append_nil, Nat.sub_self, Nat.reduceAdd, Nat.reduceSub, Nat.add_zero, Nat.zero_add, hs, List.all_cons, List.all_nil, Bool.and_self, and_self]
  have B2 : mSet 2 (mArg oddM) (e16 ns (.src false) .un) g1 = .ok .nx (lv ns .un .un .un .un .un .un .un .un .un) g1 := by
    have := odd_eq (e16 ns (.src false) .un) g1
    simp only [bodyRun, startE, slotArg, M.bind, M.pure, M.opt, mK, mVar, mVarB, mFrz, mBin, mUn, look, mBool, mAndT, mOrT, mNotT, mAndV, mOrV, mNotV, mIf, mNil, mCons, mArg, dataOf, mDisp, mSized, lookAll, mCallB, mIsi, mSl, mPart, mRg1, mRg2, mIntOf, mItems, mRange1, mRange2, evInts, rng1, rng2, mEnum, mZip, mNx, mSeqS, mDrop, mRet, mRetV, mIfS, slotOf, mSet, mAsgP, mPar, mFor, mCall, isArg, RV.ev, List.map_cons, List.map_nil, List.length_cons, List.length_nil, List.replicate, List.cons_append, List.nil_append, List.getElem?_cons_zero, List.getElem?_cons_succ, List.set_cons_zero, List.set_cons_succ, Option.map_some, Option.map_none, Bool.not_true, Bool.not_false, if_true, Bool.false_eq_true, if_false, List.append_nil, Nat.sub_self, Nat.reduceAdd, Nat.reduceSub, Nat.add_zero, Nat.zero_add, this]
  obtain ⟨t3, t4, t6, t7, t9, t10, t12, t14, t15, g2, L, l2⟩ := laps ns ((ints0 4).map .int) .un .un .un .un .un .un .un .un .un g1 l1
  have hr : rngTo 0 4 = some ((ints0 4).map .int) := rngTo_nat (n := 4) (by omega)
  have e3 : (M.bind (mCons (mK (.int 4)) mNil) mRange1) (lv ns .un .un .un .un .un .un .un .un .un) g1 = .ok ((ints0 4).map .int) (lv ns .un .un .un .un .un .un .un .un .un) g1 := by
    simp only [bodyRun, startE, slotArg, M.bind, M.pure, M.opt, mK, mVar, mVarB, mFrz, mBin, mUn, look, mBool, mAndT, mOrT, mNotT, mAndV, mOrV, mNotV, mIf, mNil, mCons, mArg, dataOf, mDisp, mSized, lookAll, mCallB, mIsi, mSl, mPart, mRg1, mRg2, mIntOf, mItems, mRange1, mRange2, evInts, rng1, rng2, mEnum, mZip, mNx, mSeqS, mDrop, mRet, mRetV, mIfS, slotOf, mSet, mAsgP, mPar, mFor, mCall, isArg, RV.ev, List.map_cons, List.map_nil, List.length_cons, List.length_nil, List.replicate, List.cons_append, List.nil_append, List.getElem?_cons_zero, List.getElem?_cons_succ, List.set_cons_zero, List.set_cons_succ, Option.map_some, Option.map_none, Bool.not_true, Bool.not_false, if_true, Bool.false_eq_true, if_false, List.append_nil, Nat.sub_self, Nat.reduceAdd, Nat.reduceSub, Nat.add_zero, Nat.zero_add, hr]
  have B3 : lp_law_3 (lv ns .un .un .un .un .un .un .un .un .un) g1 = .ok .nx (lv ns t3 t4 t6 t7 t9 t10 t12 t14 t15) g2 := by
    unfold lp_law_3 mFor
    rw [bind_eq e3]
    exact L
  have B4 : mRet tailM (lv ns t3 t4 t6 t7 t9 t10 t12 t14 t15) g2 = .ok (.rt (.d (.bool true))) (lv ns t3 t4 t6 t7 t9 t10 t12 t14 t15) g2 := by
    unfold mRet
    rw [bind_eq (tail_eq _ g2)]
    rfl
  have B : bd_law (e16 ns .un .un) none = .ok (.rt (.d (.bool true))) (lv ns t3 t4 t6 t7 t9 t10 t12 t14 t15) g2 := by
    show mSeqS (mSet 1 (mArg (mCall 1 fm__law_source (mCons (mArg (mVar 0)) mNil)))) (mSeqS (mSet 2 (mArg oddM)) (mSeqS lp_law_3 (mRet tailM))) (e16 ns .un .un) none = _
    unfold mSeqS
    rw [bind_eq B1]
    dsimp only
    rw [bind_eq B2]
    dsimp only
    rw [bind_eq B3]
    exact B4
  refine WpF.of (ev := .d (.bool true)) (e := []) (g := g2) ?_ rfl
  show bodyRun 16 bd_law [.scr ns] none = _
  unfold bodyRun
  rw [show startE 16 [EV.scr ns] = e16 ns .un .un from rfl, B]
end Lk56
open PySem PySem.W PyProof.Rows
set_option maxHeartbeats 0 in
theorem PySem.Challenge.cw_littleorders_k56_parts_judged_holds : PySem.Challenge.rw_littleorders_k56_parts_judged.Holds := by
  w_on; o_law; k_head; (case hw => w_witness2)
  k_fill
  refine DL.walk_ofD (l := PySem.Challenge.rw_littleorders_k56_parts_judged) (n := 63) (k := 12) (x := "script") (fm := Lk56.fm_law) rfl (by decide) rfl ⟨rfl, by decide, by decide⟩ (by decide +kernel) (fun w h Y => PySem.W.kIn_of Y) ?F Lk56.law_holds
  case F =>
    intro w mg fa h KX G hmg
    refine' Lk56.all_mk KX G hmg ?a0 ?l0 ?c0 ?k0 ?a1 ?l1 ?c1 ?k1 ?a2 ?l2 ?c2 ?k2 ?a3 ?l3 ?c3 ?k3 ?a4 ?l4 ?c4 ?k4 ?a5 ?l5 ?c5 ?k5 ?a6 ?l6 ?c6 ?k6 ?a7 ?l7 ?c7 ?k7 ?a8 ?l8 ?c8 ?k8 ?a9 ?l9 ?c9 ?k9 ?a10 ?l10 ?c10 ?k10 ?a11 ?l11 ?c11 ?k11 ?a12 ?l12 ?c12 ?k12 ?a13 ?l13 ?c13 ?k13 ?a14 ?l14 ?c14 ?k14 ?a15 ?l15 ?c15 ?k15 ?a16 ?l16 ?c16 ?k16 ?a17 ?l17 ?c17 ?k17 ?z0 ?z1 ?z2 ?z3 ?z4 ?z5 ?z6 ?z7 ?z8 ?z9 ?z10 ?z11 ?z12 ?z13
    (case a0 => k_is)
    (case l0 => k_is)
    (case c0 => k_is)
    (case k0 => k_is)
    (case a1 => k_is)
    (case l1 => k_is)
    (case c1 => k_is)
    (case k1 => k_is)
    (case a2 => k_is)
    (case l2 => k_is)
    (case c2 => k_is)
    (case k2 => k_is)
    (case a3 => k_is)
    (case l3 => k_is)
    (case c3 => k_is)
    (case k3 => k_is)
    (case a4 => k_is)
    (case l4 => k_is)
    (case c4 => k_is)
    (case k4 => k_is)
    (case a5 => k_is)
    (case l5 => k_is)
    (case c5 => k_is)
    (case k5 => k_is)
    (case a6 => k_is)
    (case l6 => k_is)
    (case c6 => k_is)
    (case k6 => k_is)
    (case a7 => k_is)
    (case l7 => k_is)
    (case c7 => k_is)
    (case k7 => k_is)
    (case a8 => k_is)
    (case l8 => k_is)
    (case c8 => k_is)
    (case k8 => k_is)
    (case a9 => k_is)
    (case l9 => k_is)
    (case c9 => k_is)
    (case k9 => k_is)
    (case a10 => k_is)
    (case l10 => k_is)
    (case c10 => k_is)
    (case k10 => k_is)
    (case a11 => k_is)
    (case l11 => k_is)
    (case c11 => k_is)
    (case k11 => k_is)
    (case a12 => k_is)
    (case l12 => k_is)
    (case c12 => k_is)
    (case k12 => k_is)
    (case a13 => k_is)
    (case l13 => k_is)
    (case c13 => k_is)
    (case k13 => k_is)
    (case a14 => k_is)
    (case l14 => k_is)
    (case c14 => k_is)
    (case k14 => k_is)
    (case a15 => k_is)
    (case l15 => k_is)
    (case c15 => k_is)
    (case k15 => k_is)
    (case a16 => k_is)
    (case l16 => k_is)
    (case c16 => k_is)
    (case k16 => k_is)
    (case a17 => k_is)
    (case l17 => k_is)
    (case c17 => k_is)
    (case k17 => k_is)
    (case z0 => k_is)
    (case z1 => k_is)
    (case z2 => k_is)
    (case z3 => k_is)
    (case z4 => k_is)
    (case z5 => k_is)
    (case z6 => k_is)
    (case z7 => k_is)
    (case z8 => k_is)
    (case z9 => k_is)
    (case z10 => k_is)
    (case z11 => k_is)
    (case z12 => k_is)
    (case z13 => k_is)
