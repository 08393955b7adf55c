import PyProof.Rows.All
import Wide.All
import OpenK.AllK
import Wide.FinOn
import HandS.ForMost
import HandS.TupAny
import HandS.Wide
import HandS.RaiseMore
import HandS.Deep
import HandS.Style
import KE.GoesEnum
import KE.GoesNew
import HandS.Zip
import HandS.Rev
import HandS.Walk
import KE.DataCmp
import KE.SortCalls
import KE.SortData
import HandS.SortInts
import HandS.Conv
import HandS.IsInst
import HandS.WordsDict
import HandS.Text
import HandS.SortKw
import HandS.Ends
import HandS.EndBits
import KE.KStar
import HandS.Gcd
import Open.SpecLaws
import KE.OsGo
import PySem.Challenge.RW_littleorders_k34_whole_rows_through_wort
set_option Elab.async false
set_option linter.all false
set_option maxRecDepth 100000
set_option maxHeartbeats 4000000
set_option autoImplicit false
/-! The data layer: values as plain data, own lists by slot, a drawn source; over the hand layer. -/
namespace DL
open PySem L2
/-- the drawn source of a law -/
structure Src where
  cells : List Int
  left : Int
  mixed : Int
  turn : Int
abbrev G := Option Src
/-- what a slot holds -/
inductive Slot where
  | un
  | d (x : PyData)
  | own (x : PyData)
  | src (b : Bool)
  | scr (ns : List Int)
abbrev Env' := List Slot
/-- what an expression gives -/
inductive EV where
  | d (x : PyData)
  | fr (x : PyData)
  | bo (i : Nat)
  | src (b : Bool)
  | scr (ns : List Int)
inductive R (α : Type) where
  | ok (a : α) (e : Env') (g : G)
  | exc (c : Str) (x : PyData) (e : Env') (g : G)
  | bad
abbrev M (α : Type) := Env' → G → R α
def M.bind {α β : Type} (m : M α) (f : α → M β) : M β := fun e g => match m e g with
  | .ok a e g => f a e g
  | .exc c x e g => .exc c x e g
  | .bad => .bad
def M.pure {α : Type} (a : α) : M α := fun e g => .ok a e g
def M.bad {α : Type} : M α := fun _ _ => .bad
def M.opt {α : Type} (o : Option α) : M α := match o with
  | some a => M.pure a
  | none => M.bad
def Wp {α : Type} (r : R α) (K : α → Env' → G → Prop) (E : Str → PyData → Env' → G → Prop) : Prop := match r with
  | .ok a e g => K a e g
  | .exc c x e g => E c x e g
  | .bad => False
theorem Wp.mono {α : Type} {r : R α} {K K' : α → Env' → G → Prop} {E E' : Str → PyData → Env' → G → Prop} (h : Wp r K E) (hk : ∀ a e g, K a e g → K' a e g) (he : ∀ c x e g, E c x e g → E' c x e g) : Wp r K' E' := by
  cases r with
  | ok a e g => exact hk _ _ _ h
  | exc c x e g => exact he _ _ _ _ h
  | bad => exact h
theorem Wp.bind {α β : Type} {m : M α} {f : α → M β} {e : Env'} {g : G} {K : β → Env' → G → Prop} {E : Str → PyData → Env' → G → Prop} :
    Wp (m.bind f e g) K E ↔ Wp (m e g) (fun a e g => Wp (f a e g) K E) E := by
  unfold M.bind
  cases m e g <;> exact Iff.rfl
theorem Wp.pure {α : Type} {a : α} {e : Env'} {g : G} {K : α → Env' → G → Prop} {E : Str → PyData → Env' → G → Prop} : Wp (M.pure a e g) K E ↔ K a e g := Iff.rfl
theorem Wp.opt {α : Type} {o : Option α} {e : Env'} {g : G} {K : α → Env' → G → Prop} {E : Str → PyData → Env' → G → Prop} (h : Wp (M.opt o e g) K E) : ∃ a, o = some a ∧ K a e g := by
  cases o with
  | none => exact h.elim
  | some a => exact ⟨a, rfl, h⟩
/-! ### data at a value -/
mutual
def Rep (K : PySem.W.Frag) (F : Hp) (v : V) : PyData → Prop
  | .none => v = .non
  | .bool b => v = .bl b
  | .int i => v = .int i
  | .str s => v = .str s
  | .list ds => ∃ a vs, v = .ref a ∧ F a = some (.lst vs) ∧ RepL K F vs ds
  | .tuple ds => ∃ a vs, v = .ref a ∧ SqT K F a vs ∧ RepL K F vs ds
  | .dict kvs => ∃ a kv, v = .ref a ∧ F a = some (.dK kv) ∧ RepD K F kv kvs
def RepL (K : PySem.W.Frag) (F : Hp) (vs : List V) : List PyData → Prop
  | [] => vs = []
  | d :: ds => ∃ v r, vs = v :: r ∧ Rep K F v d ∧ RepL K F r ds
def RepD (K : PySem.W.Frag) (F : Hp) (kv : List (Key × V)) : List (PyData × PyData) → Prop
  | [] => kv = []
  | p :: ps => ∃ k v r, kv = (k, v) :: r ∧ Rep K F (kV k) p.1 ∧ Rep K F v p.2 ∧ RepD K F r ps
end
theorem SqL.up {K : PySem.W.Frag} {F F' : Hp} {a : Addr} {xs : List V} (s : Same F F') (h : SqL K F a xs) : SqL K F' a xs := s.seq h
theorem SqT.up {K : PySem.W.Frag} {F F' : Hp} {a : Addr} {xs : List V} (s : Same F F') (h : SqT K F a xs) : SqT K F' a xs := by
  rcases h with (h | ⟨o, h⟩) | h
  · exact .inl (.inl (s _ _ h))
  · exact .inl (.inr ⟨o, s _ _ h⟩)
  · exact .inr h
mutual
theorem Rep.up {K : PySem.W.Frag} {F F' : Hp} (s : Same F F') : ∀ (d : PyData) (v : V), Rep K F v d → Rep K F' v d
  | .none, _, h => by simpa only [Rep] using h
  | .bool b, _, h => by simpa only [Rep] using h
  | .int i, _, h => by simpa only [Rep] using h
  | .str x, _, h => by simpa only [Rep] using h
  | .list ds, v, h => by
    simp only [Rep] at h ⊢
    obtain ⟨a, vs, e, q, r⟩ := h
    exact ⟨a, vs, e, s _ _ q, RepL.up s ds vs r⟩
  | .tuple ds, v, h => by
    simp only [Rep] at h ⊢
    obtain ⟨a, vs, e, q, r⟩ := h
    exact ⟨a, vs, e, SqT.up s q, RepL.up s ds vs r⟩
  | .dict kvs, v, h => by
    simp only [Rep] at h ⊢
    obtain ⟨a, kv, e, q, r⟩ := h
    exact ⟨a, kv, e, s _ _ q, RepD.up s kvs kv r⟩
theorem RepL.up {K : PySem.W.Frag} {F F' : Hp} (s : Same F F') : ∀ (ds : List PyData) (vs : List V), RepL K F vs ds → RepL K F' vs ds
  | [], _, h => by simpa only [RepL] using h
  | d :: ds, vs, h => by
    simp only [RepL] at h ⊢
    obtain ⟨v, r, e, q, t⟩ := h
    exact ⟨v, r, e, Rep.up s d v q, RepL.up s ds r t⟩
theorem RepD.up {K : PySem.W.Frag} {F F' : Hp} (s : Same F F') : ∀ (ds : List (PyData × PyData)) (kv : List (Key × V)), RepD K F kv ds → RepD K F' kv ds
  | [], _, h => by simpa only [RepD] using h
  | p :: ps, kv, h => by
    simp only [RepD] at h ⊢
    obtain ⟨k, v, r, e, q, t, u⟩ := h
    exact ⟨k, v, r, e, Rep.up s p.1 _ q, Rep.up s p.2 v t, RepD.up s ps r u⟩
end
@[simp] theorem rep_none {K : PySem.W.Frag} {F : Hp} {v : V} : Rep K F v .none ↔ v = .non := by simp only [Rep]
@[simp] theorem rep_bool {K : PySem.W.Frag} {F : Hp} {v : V} {b : Bool} : Rep K F v (.bool b) ↔ v = .bl b := by simp only [Rep]
@[simp] theorem rep_int {K : PySem.W.Frag} {F : Hp} {v : V} {i : Int} : Rep K F v (.int i) ↔ v = .int i := by simp only [Rep]
@[simp] theorem rep_str {K : PySem.W.Frag} {F : Hp} {v : V} {s : Str} : Rep K F v (.str s) ↔ v = .str s := by simp only [Rep]
theorem rep_list {K : PySem.W.Frag} {F : Hp} {v : V} {ds : List PyData} : Rep K F v (.list ds) ↔ ∃ a vs, v = .ref a ∧ F a = some (.lst vs) ∧ RepL K F vs ds := by simp only [Rep]
theorem rep_tup {K : PySem.W.Frag} {F : Hp} {v : V} {ds : List PyData} : Rep K F v (.tuple ds) ↔ ∃ a vs, v = .ref a ∧ SqT K F a vs ∧ RepL K F vs ds := by simp only [Rep]
theorem rep_dict {K : PySem.W.Frag} {F : Hp} {v : V} {kvs : List (PyData × PyData)} : Rep K F v (.dict kvs) ↔ ∃ a kv, v = .ref a ∧ F a = some (.dK kv) ∧ RepD K F kv kvs := by simp only [Rep]
theorem repL_nil {K : PySem.W.Frag} {F : Hp} {vs : List V} : RepL K F vs [] ↔ vs = [] := by simp only [RepL]
theorem repL_cons {K : PySem.W.Frag} {F : Hp} {vs : List V} {d : PyData} {ds : List PyData} : RepL K F vs (d :: ds) ↔ ∃ v r, vs = v :: r ∧ Rep K F v d ∧ RepL K F r ds := by simp only [RepL]
theorem RepL.length {K : PySem.W.Frag} {F : Hp} : ∀ {ds : List PyData} {vs : List V}, RepL K F vs ds → vs.length = ds.length
  | [], vs, h => by rw [repL_nil] at h; rw [h]; rfl
  | d :: ds, vs, h => by
    rw [repL_cons] at h
    obtain ⟨v, r, rfl, _, t⟩ := h
    simp [RepL.length t]
theorem RepL.append {K : PySem.W.Frag} {F : Hp} : ∀ {ds es : List PyData} {vs us : List V}, RepL K F vs ds → RepL K F us es → RepL K F (vs ++ us) (ds ++ es)
  | [], _, vs, _, h, h2 => by rw [repL_nil] at h; rw [h]; exact h2
  | d :: ds, _, vs, _, h, h2 => by
    rw [repL_cons] at h
    obtain ⟨v, r, rfl, q, t⟩ := h
    exact repL_cons.mpr ⟨v, _, rfl, q, RepL.append t h2⟩
theorem RepL.get {K : PySem.W.Frag} {F : Hp} : ∀ {ds : List PyData} {vs : List V} {i : Nat} {v : V}, RepL K F vs ds → vs[i]? = some v → ∃ d, ds[i]? = some d ∧ Rep K F v d
  | [], vs, i, v, h, e => by rw [repL_nil] at h; rw [h] at e; simp at e
  | d :: ds, vs, i, v, h, e => by
    rw [repL_cons] at h
    obtain ⟨w, r, rfl, q, t⟩ := h
    cases i with
    | zero => simp at e; subst e; exact ⟨d, rfl, q⟩
    | succ i =>
      obtain ⟨x, hx, q⟩ := RepL.get (i := i) t (by simpa using e)
      exact ⟨x, by simpa using hx, q⟩
theorem RepL.get' {K : PySem.W.Frag} {F : Hp} : ∀ {ds : List PyData} {vs : List V} {i : Nat} {d : PyData}, RepL K F vs ds → ds[i]? = some d → ∃ v, vs[i]? = some v ∧ Rep K F v d
  | [], vs, i, v, h, e => by simp at e
  | d :: ds, vs, i, v, h, e => by
    rw [repL_cons] at h
    obtain ⟨w, r, rfl, q, t⟩ := h
    cases i with
    | zero => simp at e; subst e; exact ⟨w, rfl, q⟩
    | succ i =>
      obtain ⟨x, hx, q⟩ := RepL.get' (i := i) t (by simpa using e)
      exact ⟨x, by simpa using hx, q⟩
theorem RepL.set {K : PySem.W.Frag} {F : Hp} : ∀ {ds : List PyData} {vs : List V} {i : Nat} {v : V} {d : PyData}, RepL K F vs ds → Rep K F v d → RepL K F (vs.set i v) (ds.set i d)
  | [], vs, i, v, _, h, _ => by rw [repL_nil] at h; rw [h]; exact repL_nil.mpr rfl
  | d :: ds, vs, i, v, _, h, hv => by
    rw [repL_cons] at h
    obtain ⟨w, r, rfl, q, t⟩ := h
    cases i with
    | zero => exact repL_cons.mpr ⟨v, r, rfl, hv, t⟩
    | succ i => exact repL_cons.mpr ⟨w, _, rfl, q, RepL.set t hv⟩
theorem RepL.take {K : PySem.W.Frag} {F : Hp} : ∀ {ds : List PyData} {vs : List V} (n : Nat), RepL K F vs ds → RepL K F (vs.take n) (ds.take n)
  | _, _, 0, h => by simp; exact repL_nil.mpr rfl
  | [], vs, n + 1, h => by rw [repL_nil] at h; rw [h]; exact repL_nil.mpr rfl
  | d :: ds, vs, n + 1, h => by
    rw [repL_cons] at h
    obtain ⟨w, r, rfl, q, t⟩ := h
    exact repL_cons.mpr ⟨w, _, rfl, q, RepL.take n t⟩
theorem RepL.drop {K : PySem.W.Frag} {F : Hp} : ∀ {ds : List PyData} {vs : List V} (n : Nat), RepL K F vs ds → RepL K F (vs.drop n) (ds.drop n)
  | _, _, 0, h => h
  | [], vs, n + 1, h => by rw [repL_nil] at h; rw [h]; exact repL_nil.mpr rfl
  | d :: ds, vs, n + 1, h => by
    rw [repL_cons] at h
    obtain ⟨w, r, rfl, q, t⟩ := h
    exact RepL.drop n t
theorem RepL.of_map {K : PySem.W.Frag} {F : Hp} {α : Type} {f : α → V} {g : α → PyData} (h : ∀ a, Rep K F (f a) (g a)) : ∀ xs : List α, RepL K F (xs.map f) (xs.map g)
  | [] => repL_nil.mpr rfl
  | x :: xs => repL_cons.mpr ⟨_, _, rfl, h x, RepL.of_map h xs⟩
theorem repL_ints {K : PySem.W.Frag} {F : Hp} (ns : List Int) : RepL K F (ns.map .int) (ns.map .int) := RepL.of_map (fun _ => rep_int.mpr rfl) ns
theorem repL_ints_of {K : PySem.W.Frag} {F : Hp} : ∀ {ns : List Int} {vs : List V}, RepL K F vs (ns.map .int) → vs = ns.map V.int
  | [], vs, h => repL_nil.mp h
  | n :: ns, vs, h => by
    obtain ⟨v, r, rfl, q, t⟩ := repL_cons.mp h
    rw [rep_int.mp q, repL_ints_of t]
    rfl
theorem repL_strs_of {K : PySem.W.Frag} {F : Hp} : ∀ {ns : List Str} {vs : List V}, RepL K F vs (ns.map .str) → vs = ns.map V.str
  | [], vs, h => repL_nil.mp h
  | n :: ns, vs, h => by
    obtain ⟨v, r, rfl, q, t⟩ := repL_cons.mp h
    rw [rep_str.mp q, repL_strs_of t]
    rfl
/-- what stands at an owned address -/
def OwnRep (K : PySem.W.Frag) (F H : Hp) (a : Addr) : PyData → Prop
  | .list ds => ∃ vs, H a = some (.lst vs) ∧ RepL K F vs ds
  | .dict kvs => ∃ kv, H a = some (.dK kv) ∧ RepD K F kv kvs
  | _ => False
theorem OwnRep.up {K : PySem.W.Frag} {F F' H H' : Hp} {a : Addr} {x : PyData} (h : OwnRep K F H a x) (s : Same F F') (k : ∀ o, H a = some o → H' a = some o) : OwnRep K F' H' a x := by
  cases x <;> try exact h
  · obtain ⟨vs, e, r⟩ := h
    exact ⟨vs, k _ e, RepL.up s _ _ r⟩
  · obtain ⟨vs, e, r⟩ := h
    exact ⟨vs, k _ e, RepD.up s _ _ r⟩
theorem OwnRep.some {K : PySem.W.Frag} {F H : Hp} {a : Addr} {x : PyData} (h : OwnRep K F H a x) : ∃ o, H a = Option.some o := by
  cases x <;> try exact h.elim
  · obtain ⟨vs, e, r⟩ := h
    exact ⟨_, e⟩
  · obtain ⟨vs, e, r⟩ := h
    exact ⟨_, e⟩
/-- frozen: what was owned is data -/
theorem OwnRep.freeze {K : PySem.W.Frag} {F H : Hp} {a : Addr} {x : PyData} (h : OwnRep K F H a x) (n : F a = none) : ∃ o, H a = Option.some o ∧ Rep K (upd F a o) (.ref a) x := by
  have s : ∀ o, Same F (upd F a o) := fun o b u e => by
    rw [upd_ne (ne_of_none e n)]
    exact e
  cases x <;> try exact h.elim
  · obtain ⟨vs, e, r⟩ := h
    exact ⟨_, e, rep_list.mpr ⟨a, vs, rfl, upd_same, RepL.up (s _) _ _ r⟩⟩
  · obtain ⟨vs, e, r⟩ := h
    exact ⟨_, e, rep_dict.mpr ⟨a, vs, rfl, upd_same, RepD.up (s _) _ _ r⟩⟩
/-! ### the source -/
abbrev Loc := Option (Addr × Addr)
def SrcAt (l : Loc) (a : Addr) : Prop := ∃ p, l = some p ∧ (a = p.1 ∨ a = p.2)
def srcDict (c : Addr) (s : Src) : HO := .dK [(.inr "cells", .ref c), (.inr "left", .int s.left), (.inr "mixed", .int s.mixed), (.inr "turn", .int s.turn)]
def SrcRep (F H : Hp) : Loc → G → Prop
  | none, none => True
  | some (d, c), some s => d ≠ c ∧ H d = some (srcDict c s) ∧ H c = some (.lst (s.cells.map .int)) ∧ F d = none ∧ F c = none
  | _, _ => False
/-! ### the state -/
/-- what is fixed in a def's body: the written part, the data and the heap at its entry, what is wished of an exception, how one is borne -/
structure DCx where
  K : PySem.W.Frag
  F0 : Hp
  H0 : Hp
  l0 : Loc
  W : (Value → Option Addr → L2.St → Hp → Prop)
  XR : Str → PyData → Value → Option Addr → Hp → Hp → Prop
def OwnAt (σ : L2.St) (env : Env') (a : Addr) : Prop := ∃ (i : Nat) (x : PyData), env[i]? = some (Slot.own x) ∧ σ[i]? = some (some (V.ref a))
structure Rel (C : DCx) (σ : L2.St) (F H : Hp) (l : Loc) (env : Env') (g : G) : Prop where
  sub : Same F H
  len : σ.length = env.length
  dat : ∀ (i : Nat) (x : PyData), env[i]? = some (Slot.d x) → ∃ v, σ[i]? = some (some v) ∧ Rep C.K F v x
  own : ∀ (i : Nat) (x : PyData), env[i]? = some (Slot.own x) → ∃ a, σ[i]? = some (some (V.ref a)) ∧ OwnRep C.K F H a x ∧ F a = none ∧ C.H0 a = none ∧ ¬ SrcAt l a
  inj : ∀ (i j : Nat) (x y : PyData) (a : Addr), env[i]? = some (Slot.own x) → env[j]? = some (Slot.own y) → σ[i]? = some (some (V.ref a)) → σ[j]? = some (some (V.ref a)) → i = j
  iscr : ∀ (i : Nat) (ns : List Int), env[i]? = some (Slot.scr ns) → ∃ a, σ[i]? = some (some (V.ref a)) ∧ SqL C.K F a (ns.map V.int)
  isrc : ∀ (i : Nat) (b : Bool), env[i]? = some (Slot.src b) → ∃ d c, l = some (d, c) ∧ σ[i]? = some (some (V.ref (if b then c else d)))
  src : SrcRep F H l g
  old : ∀ a o, C.H0 a = some o → ¬ SrcAt C.l0 a → H a = some o
  oldd : ∀ a, C.H0 a ≠ none → H a ≠ none
  f0 : Same C.F0 F
  fo : ∀ a, F a ≠ none → C.F0 a ≠ none ∨ C.H0 a = none
  lo : ∀ a, SrcAt l a → SrcAt C.l0 a ∨ C.H0 a = none
  l0 : ∀ p, C.l0 = some p → l = some p
/-- from one state to a later one; O, O': the addresses that slots own -/
structure ExtO (O : Addr → Prop) (F H : Hp) (l : Loc) (F' H' : Hp) (l' : Loc) (O' : Addr → Prop) : Prop where
  fs : Same F F'
  hd : ∀ a, H a ≠ none → H' a ≠ none
  hk : ∀ a o, H a = some o → ¬ O a → ¬ SrcAt l a → H' a = some o
  gr : ∀ a, F' a ≠ none → F a ≠ none ∨ H a = none ∨ O a
  ow : ∀ a, O' a → O a
  ls : ∀ p, l = some p → l' = some p
  ln : ∀ a, SrcAt l' a → SrcAt l a ∨ H a = none
/-- within an expression -/
abbrev Ext (σ : L2.St) (F H : Hp) (l : Loc) (env : Env') (F' H' : Hp) (l' : Loc) (env' : Env') : Prop := ExtO (OwnAt σ env) F H l F' H' l' (OwnAt σ env')
theorem ExtO.refl {O : Addr → Prop} {F H : Hp} {l : Loc} : ExtO O F H l F H l O :=
  ⟨fun _ _ e => e, fun _ e => e, fun _ _ e _ _ => e, fun _ e => .inl e, fun _ e => e, fun _ e => e, fun _ e => .inl e⟩
theorem Ext.refl {σ : L2.St} {F H : Hp} {l : Loc} {env : Env'} : Ext σ F H l env F H l env := ExtO.refl
theorem SrcAt.up {l l' : Loc} (h : ∀ p, l = some p → l' = some p) {a : Addr} (s : SrcAt l a) : SrcAt l' a := let ⟨p, e, q⟩ := s; ⟨p, h p e, q⟩
theorem SrcRep.srcF {F H : Hp} {l : Loc} {g : G} (r : SrcRep F H l g) {a : Addr} (s : SrcAt l a) : F a = none := by
  obtain ⟨⟨d, c⟩, e, q⟩ := s
  subst e
  cases g with
  | none => exact r.elim
  | some s =>
    obtain ⟨_, _, _, h1, h2⟩ := r
    rcases q with q | q <;> rw [q] <;> assumption
theorem SrcRep.srcH {F H : Hp} {l : Loc} {g : G} (r : SrcRep F H l g) {a : Addr} (s : SrcAt l a) : ∃ o, H a = some o := by
  obtain ⟨⟨d, c⟩, e, q⟩ := s
  subst e
  cases g with
  | none => exact r.elim
  | some s =>
    obtain ⟨_, h1, h2, _, _⟩ := r
    rcases q with q | q <;> rw [q] <;> exact ⟨_, by assumption⟩
theorem Rel.ownF {C : DCx} {σ : L2.St} {F H : Hp} {l : Loc} {env : Env'} {g : G} (r : Rel C σ F H l env g) {a : Addr} (s : OwnAt σ env a) : F a = none ∧ C.H0 a = none ∧ ¬ SrcAt l a ∧ ∃ o, H a = some o := by
  obtain ⟨i, x, h1, h2⟩ := s
  obtain ⟨b, e, o, f, h, n⟩ := r.own i x h1
  rw [h2] at e
  cases e
  exact ⟨f, h, n, o.some⟩
theorem none_of_none {H H' : Hp} (hd : ∀ a, H a ≠ none → H' a ≠ none) {a : Addr} (h : H' a = none) : H a = none :=
  Classical.byContradiction fun z => hd a z h
theorem ExtO.trans {O O1 O2 : Addr → Prop} {F H F1 H1 F2 H2 : Hp} {l l1 l2 : Loc} (a : ExtO O F H l F1 H1 l1 O1) (b : ExtO O1 F1 H1 l1 F2 H2 l2 O2) : ExtO O F H l F2 H2 l2 O2 where
  fs := a.fs.trans b.fs
  hd := fun x h => b.hd x (a.hd x h)
  hk := fun x o h n1 n2 => b.hk x o (a.hk x o h n1 n2) (fun z => n1 (a.ow x z)) fun z => (a.ln x z).elim n2 fun z => by rw [h] at z; cases z
  gr := fun x h => by
    rcases b.gr x h with h1 | h1 | h1
    · exact a.gr x h1
    · exact .inr (.inl (none_of_none a.hd h1))
    · exact .inr (.inr (a.ow x h1))
  ow := fun x h => a.ow x (b.ow x h)
  ls := fun p h => b.ls p (a.ls p h)
  ln := fun x h => by
    rcases b.ln x h with h1 | h1
    · exact a.ln x h1
    · exact .inr (none_of_none a.hd h1)
theorem ExtO.conv {O O' P P' : Addr → Prop} {F H F1 H1 : Hp} {l l1 : Loc} (a : ExtO O F H l F1 H1 l1 O') (h : ∀ x, O x → P x) (h' : ∀ x, P' x → P x) : ExtO P F H l F1 H1 l1 P' :=
  ⟨a.fs, a.hd, fun x o e n1 n2 => a.hk x o e (fun z => n1 (h x z)) n2, fun x e => (a.gr x e).elim .inl fun z => .inr (z.elim .inl fun z => .inr (h x z)), h', a.ls, a.ln⟩
theorem Ext.trans {C : DCx} {σ : L2.St} {F H F1 H1 F2 H2 : Hp} {l l1 l2 : Loc} {env env1 env2 : Env'} (a : Ext σ F H l env F1 H1 l1 env1) (b : Ext σ F1 H1 l1 env1 F2 H2 l2 env2) : Ext σ F H l env F2 H2 l2 env2 := ExtO.trans a b
/-- what an expression's value is -/
def RepEV (C : DCx) (σ : L2.St) (F H : Hp) (l : Loc) (env : Env') (v : V) : EV → Prop
  | .d x => Rep C.K F v x
  | .fr x => ∃ a, v = V.ref a ∧ OwnRep C.K F H a x ∧ F a = none ∧ C.H0 a = none ∧ ¬ SrcAt l a ∧ ¬ OwnAt σ env a
  | .bo i => σ[i]? = some (some v)
  | .src b => ∃ d c, l = some (d, c) ∧ v = V.ref (if b then c else d)
  | .scr ns => ∃ a, v = V.ref a ∧ SqL C.K F a (ns.map V.int)
theorem RepEV.up {C : DCx} {σ : L2.St} {F H F' H' : Hp} {l l' : Loc} {env env' : Env'} {v : V} {ev : EV} (h : RepEV C σ F H l env v ev) (x : Ext σ F H l env F' H' l' env') : RepEV C σ F' H' l' env' v ev := by
  cases ev with
  | d y => exact Rep.up x.fs _ _ h
  | fr y =>
    obtain ⟨a, e, o, f, h0, ns, no⟩ := h
    obtain ⟨u, hu⟩ := o.some
    refine ⟨a, e, o.up x.fs fun u q => x.hk a u q no ns, ?_, h0, fun z => ?_, fun z => no (x.ow a z)⟩
    · refine Classical.byContradiction fun z => ?_
      rcases x.gr a z with q | q | q
      · exact q f
      · rw [hu] at q; cases q
      · exact no q
    · rcases x.ln a z with q | q
      · exact ns q
      · rw [hu] at q; cases q
  | bo i => exact h
  | src b =>
    obtain ⟨d, c, e, q⟩ := h
    exact ⟨d, c, x.ls _ e, q⟩
  | scr ns =>
    obtain ⟨a, e, q⟩ := h
    exact ⟨a, e, x.fs.seq q⟩
/-- the data that an expression's value is, as the slots stand -/
def look (env : Env') : EV → Option PyData
  | .d x => some x
  | .fr x => some x
  | .bo i => match env[i]? with
    | some (.own x) => some x
    | some (.d x) => some x
    | _ => none
  | .src _ => none
  | .scr _ => none
/-- data at a value, for reading: in the frozen part, or owned -/
def Bor (K : PySem.W.Frag) (F H : Hp) (v : V) (x : PyData) : Prop := Rep K F v x ∨ ∃ a, v = V.ref a ∧ OwnRep K F H a x
theorem RepEV.look {C : DCx} {σ : L2.St} {F H : Hp} {l : Loc} {env : Env'} {g : G} {v : V} {ev : EV} {x : PyData} (h : RepEV C σ F H l env v ev) (r : Rel C σ F H l env g) (e : look env ev = some x) : Bor C.K F H v x := by
  cases ev with
  | d y => cases e; exact .inl h
  | fr y =>
    cases e
    obtain ⟨a, e, o, _⟩ := h
    exact .inr ⟨a, e, o⟩
  | bo i =>
    have h : σ[i]? = some (some v) := h
    replace e : (match env[i]? with | some (Slot.own x) => some x | some (Slot.d x) => some x | _ => none) = some x := e
    split at e
    · rename_i y q
      cases e
      obtain ⟨a, q1, o, _⟩ := r.own i _ q
      rw [h] at q1
      cases q1
      exact .inr ⟨a, rfl, o⟩
    · rename_i y q
      cases e
      obtain ⟨u, q1, o⟩ := r.dat i _ q
      rw [h] at q1
      cases q1
      exact .inl o
    · cases e
  | src b => cases e
  | scr ns => cases e
/-! ### judgements -/
/-- a fresh one was not there ahead -/
def FreshAt (H : Hp) (v : V) : EV → Prop
  | .fr _ => ∀ a, v = V.ref a → H a = none
  | _ => True
/-- what is wanted behind an expression -/
def KE (C : DCx) (σ : L2.St) (F H : Hp) (l : Loc) (env : Env') (Q : VK) : EV → Env' → G → Prop := fun ev env' g' =>
  ∀ v F' H' l', Rel C σ F' H' l' env' g' → Ext σ F H l env F' H' l' env' → RepEV C σ F' H' l' env' v ev → FreshAt H v ev → Q v H'
def KX (C : DCx) (σ : L2.St) : Str → PyData → Env' → G → Prop := fun c x env' g' =>
  ∀ F' H' l' cls d, Rel C σ F' H' l' env' g' → C.XR c x cls d F' H' → C.W cls d σ H'
theorem FreshAt.dn {H H1 : Hp} {v : V} {ev : EV} (h : FreshAt H1 v ev) (hd : ∀ a, H a ≠ none → H1 a ≠ none) : FreshAt H v ev := by
  cases ev with
  | fr x => exact fun a e => none_of_none hd (h a e)
  | _ => trivial
theorem KE.up {C : DCx} {σ : L2.St} {F H F1 H1 : Hp} {l l1 : Loc} {env env1 : Env'} {Q : VK} {ev : EV} {env' : Env'} {g' : G} (h : KE C σ F H l env Q ev env' g') (x : Ext σ F H l env F1 H1 l1 env1) : KE C σ F1 H1 l1 env1 Q ev env' g' :=
  fun v F' H' l' r y p f => h v F' H' l' r (x.trans (C := C) y) p (f.dn x.hd)
def SimE (C : DCx) (t : TE) (m : M EV) : Prop := ∀ (σ : L2.St) (F H : Hp) (l : Loc) (env : Env') (g : G) (Q : VK), Rel C σ F H l env g → Wp (m env g) (KE C σ F H l env Q) (KX C σ) → t σ H Q
/-- an expression -/
structure DE (X : Cx) (C : DCx) (e : Expr) (m : M EV) : Prop where
  run : C.K = X.K → ∃ t, PE X e t ∧ SimE C t m
/-- frozen data -/
def KD (C : DCx) (σ : L2.St) (F H : Hp) (l : Loc) (env : Env') (Q : VK) : PyData → Env' → G → Prop := fun x env' g' =>
  ∀ v F' H' l', Rel C σ F' H' l' env' g' → Ext σ F H l env F' H' l' env' → Rep C.K F' v x → Q v H'
def SimD (C : DCx) (t : TE) (m : M PyData) : Prop := ∀ (σ : L2.St) (F H : Hp) (l : Loc) (env : Env') (g : G) (Q : VK), Rel C σ F H l env g → Wp (m env g) (KD C σ F H l env Q) (KX C σ) → t σ H Q
structure DD (X : Cx) (C : DCx) (e : Expr) (m : M PyData) : Prop where
  run : C.K = X.K → ∃ t, PE X e t ∧ SimD C t m
/-- a test -/
def KT (C : DCx) (σ : L2.St) (F H : Hp) (l : Loc) (env : Env') (Q : Bool → Hp → Prop) : Bool → Env' → G → Prop := fun b env' g' =>
  ∀ F' H' l', Rel C σ F' H' l' env' g' → Ext σ F H l env F' H' l' env' → Q b H'
def SimT (C : DCx) (t : TT) (m : M Bool) : Prop := ∀ (σ : L2.St) (F H : Hp) (l : Loc) (env : Env') (g : G) (Q : Bool → Hp → Prop), Rel C σ F H l env g → Wp (m env g) (KT C σ F H l env Q) (KX C σ) → t σ H Q
structure DT (X : Cx) (C : DCx) (e : Expr) (m : M Bool) : Prop where
  run : C.K = X.K → ∃ t, PT X e t ∧ SimT C t m
structure DW (X : Cx) (C : DCx) (e : Expr) (m : M Bool) : Prop where
  run : C.K = X.K → ∃ t, PW X e t ∧ SimT C t m
/-- a list of arguments, as they come -/
def Fresh2 (H : Hp) (vs : List V) (evs : List EV) : Prop := Paired (fun v ev => FreshAt H v ev) vs evs
def KA (C : DCx) (σ : L2.St) (F H : Hp) (l : Loc) (env : Env') (Q : List V → Hp → Prop) : List EV → Env' → G → Prop := fun evs env' g' =>
  ∀ vs F' H' l', Rel C σ F' H' l' env' g' → Ext σ F H l env F' H' l' env' → Paired (fun v ev => RepEV C σ F' H' l' env' v ev ∧ FreshAt H v ev) vs evs → Q vs H'
def SimA (C : DCx) (t : TA) (m : M (List EV)) : Prop := ∀ (σ : L2.St) (F H : Hp) (l : Loc) (env : Env') (g : G) (Q : List V → Hp → Prop), Rel C σ F H l env g → Wp (m env g) (KA C σ F H l env Q) (KX C σ) → t σ H Q
structure DA (X : Cx) (C : DCx) (es : List Expr) (m : M (List EV)) : Prop where
  run : C.K = X.K → ∃ t, PA X es t ∧ SimA C t m
theorem Paired.imp {α β : Type} {P P' : α → β → Prop} (h : ∀ a b, P a b → P' a b) : ∀ {xs : List α} {ys : List β}, Paired P xs ys → Paired P' xs ys
  | _, _, .nil => .nil
  | _, _, .cons r t => .cons (h _ _ r) (Paired.imp h t)
end DL
namespace DL
open PySem L2
/-! ### results of an operation on values: new objects come, nothing else changes -/
inductive RV where
  | d (x : PyData)
  | fr (x : PyData)
def RV.ev : RV → EV
  | .d x => .d x
  | .fr x => .fr x
structure New (K : PySem.W.Frag) (F H F' H' : Hp) (v : V) (r : RV) : Prop where
  fs : Same F F'
  hs : Same H H'
  sub : Same F' H'
  gr : ∀ a, F' a ≠ none → F a ≠ none ∨ H a = none
  rep : match r with
    | .d x => Rep K F' v x
    | .fr x => ∃ a, v = V.ref a ∧ H a = none ∧ F' a = none ∧ OwnRep K F' H' a x
def ResK (K : PySem.W.Frag) (F H : Hp) (Q : VK) (r : RV) : Prop := ∀ v F' H', New K F H F' H' v r → Q v H'
theorem Same.upd {H : Hp} {p : Addr} {o : HO} (n : H p = none) : Same H (upd H p o) := fun b u e => by
  rw [upd_ne (ne_of_none e n)]
  exact e
theorem none_sub {F H : Hp} (s : Same F H) {p : Addr} (n : H p = none) : F p = none := s.free n
theorem ResK.val {K : PySem.W.Frag} {F H : Hp} {Q : VK} {x : PyData} {v : V} (s : Same F H) (h : ResK K F H Q (.d x)) (r : Rep K F v x) : Q v H :=
  h v F H ⟨.refl _, .refl _, s, fun _ e => .inl e, r⟩
theorem ResK.tup {K : PySem.W.Frag} {F H : Hp} {Q : VK} {ds : List PyData} {vs : List V} {p : Addr} (s : Same F H) (h : ResK K F H Q (.d (.tuple ds))) (n : H p = none) (r : RepL K F vs ds) : Q (.ref p) (upd H p (.tup vs)) := by
  have nf := none_sub s n
  refine h _ (upd F p (.tup vs)) _ ⟨Same.upd nf, Same.upd n, fun b o e => ?_, fun a e => ?_, ?_⟩
  · by_cases hb : b = p
    · subst hb; rw [upd_same] at e ⊢; exact e
    · rw [upd_ne hb] at e ⊢; exact s _ _ e
  · by_cases hb : a = p
    · subst hb; exact .inr n
    · rw [upd_ne hb] at e; exact .inl e
  · exact rep_tup.mpr ⟨p, vs, rfl, SqT.of upd_same, RepL.up (Same.upd nf) _ _ r⟩
theorem ResK.lst {K : PySem.W.Frag} {F H : Hp} {Q : VK} {ds : List PyData} {vs : List V} {p : Addr} (s : Same F H) (h : ResK K F H Q (.fr (.list ds))) (n : H p = none) (r : RepL K F vs ds) : Q (.ref p) (upd H p (.lst vs)) :=
  h _ F _ ⟨.refl _, Same.upd n, s.trans (Same.upd n), fun _ e => .inl e, p, rfl, n, none_sub s n, vs, upd_same, r⟩
theorem ResK.dict {K : PySem.W.Frag} {F H : Hp} {Q : VK} {ds : List (PyData × PyData)} {vs : List (Key × V)} {p : Addr} (s : Same F H) (h : ResK K F H Q (.fr (.dict ds))) (n : H p = none) (r : RepD K F vs ds) : Q (.ref p) (upd H p (.dK vs)) :=
  h _ F _ ⟨.refl _, Same.upd n, s.trans (Same.upd n), fun _ e => .inl e, p, rfl, n, none_sub s n, vs, upd_same, r⟩
theorem Rel.new {C : DCx} {σ : L2.St} {F H F' H' : Hp} {l : Loc} {env : Env'} {g : G} {v : V} {r : RV} (R : Rel C σ F H l env g) (n : New C.K F H F' H' v r) :
    Rel C σ F' H' l env g ∧ Ext σ F H l env F' H' l env ∧ RepEV C σ F' H' l env v r.ev := by
  have nf : ∀ a, (∃ o, H a = some o) → F a = none → F' a = none := fun a ⟨o, ho⟩ hf => Classical.byContradiction fun z => by
    rcases n.gr a z with q | q
    · exact q hf
    · rw [ho] at q; cases q
  have srcs : SrcRep F' H' l g := by
    have q := R.src
    cases l with
    | none => cases g with
      | none => trivial
      | some s => exact q.elim
    | some p => cases g with
      | none => exact q.elim
      | some s =>
        obtain ⟨h1, h2, h3, h4, h5⟩ := q
        exact ⟨h1, n.hs _ _ h2, n.hs _ _ h3, nf _ ⟨_, h2⟩ h4, nf _ ⟨_, h3⟩ h5⟩
  refine ⟨⟨n.sub, R.len, fun i x e => ?_, fun i x e => ?_, R.inj, fun i ns e => ?_, R.isrc, srcs, fun a o e ns => n.hs _ _ (R.old a o e ns), fun a e => ?_, R.f0.trans n.fs, fun a e => ?_, R.lo, R.l0⟩,
    ⟨n.fs, fun a e => ?_, fun a o e _ _ => n.hs _ _ e, fun a e => (n.gr a e).elim .inl fun z => .inr (.inl z), fun _ e => e, fun _ e => e, fun _ e => .inl e⟩, ?_⟩
  · obtain ⟨u, h1, h2⟩ := R.dat i x e
    exact ⟨u, h1, Rep.up n.fs _ _ h2⟩
  · obtain ⟨a, h1, h2, h3, h4, h5⟩ := R.own i x e
    exact ⟨a, h1, h2.up n.fs fun o q => n.hs _ _ q, nf _ h2.some h3, h4, h5⟩
  · obtain ⟨a, h1, h2⟩ := R.iscr i ns e
    exact ⟨a, h1, n.fs.seq h2⟩
  · have z := R.oldd a e
    cases q : H a with
    | none => exact absurd q z
    | some o => rw [n.hs _ _ q]; exact nofun
  · rcases n.gr a e with q | q
    · exact R.fo a q
    · exact .inr (Classical.byContradiction fun z => R.oldd a z q)
  · cases q : H a with
    | none => exact absurd q e
    | some o => rw [n.hs _ _ q]; exact nofun
  · have q := n.rep
    cases r with
    | d x => exact q
    | fr x =>
      obtain ⟨a, h1, h2, h3, h4⟩ := q
      refine ⟨a, h1, h4, h3, Classical.byContradiction fun z => R.oldd a z h2, fun z => ?_, fun z => ?_⟩
      · obtain ⟨o, ho⟩ := R.src.srcH z
        rw [h2] at ho; cases ho
      · obtain ⟨_, _, _, o, ho⟩ := R.ownF z
        rw [h2] at ho; cases ho
theorem KE.res {C : DCx} {σ : L2.St} {F H : Hp} {l : Loc} {env : Env'} {g : G} {Q : VK} {r : RV} (R : Rel C σ F H l env g) (h : KE C σ F H l env Q r.ev env g) : ResK C.K F H Q r := fun v F' H' n =>
  let ⟨a, b, c⟩ := R.new n
  h v F' H' l a b c (by
    cases r with
    | d x => trivial
    | fr x =>
      obtain ⟨p, h1, h2, _⟩ := n.rep
      intro q e
      rw [h1] at e
      cases e
      exact h2)
/-! ### operations by values -/
def OpD (X : Cx) (f : Value → Value → Sem Value) (g : PyData → PyData → Option RV) : Prop :=
  ∃ r, OpR X f r ∧ ∀ (F H : Hp) (v w : V) (x y : PyData) (Q : VK) (ev : RV), Same F H → Bor X.K F H v x → Bor X.K F H w y → g x y = some ev → ResK X.K F H Q ev → r v w H Q
def CallD (X : Cx) (f : Value) (g : List PyData → Option RV) : Prop :=
  ∃ r, CallR X f r ∧ ∀ (F H : Hp) (vs : List V) (xs : List PyData) (Q : VK) (ev : RV), Same F H → Paired (Bor X.K F H) vs xs → g xs = some ev → ResK X.K F H Q ev → r vs H Q
def UnD (X : Cx) (f : Value → Sem Value) (g : PyData → Option RV) : Prop :=
  ∃ r, UnR X f r ∧ ∀ (F H : Hp) (v : V) (x : PyData) (Q : VK) (ev : RV), Same F H → Bor X.K F H v x → g x = some ev → ResK X.K F H Q ev → r v H Q
/-- the items of a list or tuple, for reading -/
theorem Bor.seq {K : PySem.W.Frag} {F H : Hp} {v : V} {ds : List PyData} (s : Same F H) (h : Bor K F H v (.list ds)) : ∃ a vs, v = V.ref a ∧ H a = some (.lst vs) ∧ RepL K F vs ds := by
  rcases h with h | ⟨a, e, o⟩
  · obtain ⟨a, vs, e, q, r⟩ := rep_list.mp h
    exact ⟨a, vs, e, s _ _ q, r⟩
  · obtain ⟨vs, h1, r⟩ := o
    exact ⟨a, vs, e, h1, r⟩
theorem Bor.tup {K : PySem.W.Frag} {F H : Hp} {v : V} {ds : List PyData} (s : Same F H) (h : Bor K F H v (.tuple ds)) : ∃ a vs, v = V.ref a ∧ SqT K H a vs ∧ RepL K F vs ds := by
  rcases h with h | ⟨a, e, o⟩
  · obtain ⟨a, vs, e, q, r⟩ := rep_tup.mp h
    exact ⟨a, vs, e, SqT.up s q, r⟩
  · exact o.elim
theorem Bor.int {K : PySem.W.Frag} {F H : Hp} {v : V} {i : Int} (h : Bor K F H v (.int i)) : v = .int i := by
  rcases h with h | ⟨a, e, o⟩
  · exact rep_int.mp h
  · exact o.elim
theorem Bor.bool {K : PySem.W.Frag} {F H : Hp} {v : V} {i : Bool} (h : Bor K F H v (.bool i)) : v = .bl i := by
  rcases h with h | ⟨a, e, o⟩
  · exact rep_bool.mp h
  · exact o.elim
theorem Bor.str {K : PySem.W.Frag} {F H : Hp} {v : V} {i : Str} (h : Bor K F H v (.str i)) : v = .str i := by
  rcases h with h | ⟨a, e, o⟩
  · exact rep_str.mp h
  · exact o.elim
theorem Bor.none {K : PySem.W.Frag} {F H : Hp} {v : V} (h : Bor K F H v .none) : v = .non := by
  rcases h with h | ⟨a, e, o⟩
  · exact rep_none.mp h
  · exact o.elim
end DL
namespace DL
open PySem L2
/-! ### data as the library reads it -/
section
variable {X : Cx} {pins : List (Addr × Obj)} {σ : L2.St} {H F : Hp} {s : Shared}
theorem readsAll_keys {h : Heap} : ∀ {kvs : List (Key × Value)} {es : List DictEntry} {ps : List (PyData × PyData)} {kv : List (Key × V)} {P : Program} {w : World} {K : PySem.W.Frag}, Pairs (mixKind P w) es kvs → KV kv kvs → RepD K F kv ps →
    ∃ as, ReadsAll h (es.map (·.key)) (ps.map (·.1)) as := by
  intro kvs es ps kv P w K hp
  induction hp generalizing kv ps with
  | nil =>
    intro hk hr
    cases hk
    cases ps with
    | nil => exact ⟨_, .nil⟩
    | cons p ps =>
      simp only [RepD] at hr
      obtain ⟨_, _, _, e, _⟩ := hr
      cases e
  | @cons e kv' es kvs h1 h2 t ih =>
    intro hk hr
    cases hk with
    | @cons p _ r _ hk1 hk2 =>
      cases ps with
      | nil =>
        simp only [RepD] at hr
        cases hr
      | cons q ps =>
        simp only [RepD] at hr
        obtain ⟨k, v, r', e', r1, r2, r3⟩ := hr
        cases e'
        obtain ⟨as, ha⟩ := ih hk2 r3
        have hq : kv'.1 = k := hk1.1.symm
        have hz : keyIs kv'.1 e.key = true := h1
        rw [hq] at hz
        rcases keyIs_shape hz with ⟨i, t', rfl, ek⟩ | ⟨x, t', rfl, ek⟩
        · have z : q.1 = .int i := by
            obtain ⟨q1, q2⟩ := q
            cases q1 <;> simp_all [kV, rep_list, rep_tup, rep_dict]
          rw [List.map_cons, List.map_cons, ek, z]
          exact ⟨_, .cons (.int i t') ha⟩
        · have z : q.1 = .str x := by
            obtain ⟨q1, q2⟩ := q
            cases q1 <;> simp_all [kV, rep_list, rep_tup, rep_dict]
          rw [List.map_cons, List.map_cons, ek, z]
          exact ⟨_, .cons (.str x t') ha⟩
theorem pairs_vals {P : Program} {w : World} : ∀ {kvs : List (Key × Value)} {es : List DictEntry}, Pairs (mixKind P w) es kvs → es.map (·.val) = kvs.map (·.2)
  | _, _, .nil => rfl
  | _, _, .cons _ h t => by rw [List.map_cons, List.map_cons, h, pairs_vals t]
mutual
theorem Rep.reads (I : Inv X pins σ H s) (hs : Same F H) : ∀ (d : PyData) (v : V) (u : Value), Rep X.K F v d → RelV v u → ∃ as, Reads s.heap u d as
  | .none, _, _, h, r => by
    cases rep_none.mp h
    cases r
    exact ⟨_, Reads.none⟩
  | .bool b, _, _, h, r => by
    cases rep_bool.mp h
    cases r
    exact ⟨_, Reads.bool b⟩
  | .int i, _, _, h, r => by
    cases rep_int.mp h
    obtain ⟨t, rfl⟩ := r
    exact ⟨_, Reads.int i t⟩
  | .str x, _, _, h, r => by
    cases rep_str.mp h
    obtain ⟨t, rfl⟩ := r
    exact ⟨_, Reads.str x t⟩
  | .list ds, _, _, h, r => by
    obtain ⟨a, vs, rfl, q, t⟩ := rep_list.mp h
    cases r
    obtain ⟨its, rv, ⟨o, n, ho, hc, _, hd⟩, _⟩ := I.list (SqL.of (hs _ _ q))
    obtain ⟨as, hr⟩ := RepL.reads I hs ds vs its t rv
    exact ⟨_, Reads.list ho hc hd hr⟩
  | .tuple ds, _, _, h, r => by
    obtain ⟨a, vs, rfl, q, t⟩ := rep_tup.mp h
    cases r
    obtain ⟨its, rv, ⟨o, ho, hc, n, hd⟩, _⟩ := I.tuple (SqT.up hs q)
    obtain ⟨as, hr⟩ := RepL.reads I hs ds vs its t rv
    exact ⟨_, Reads.tuple ho hc hd hr⟩
  | .dict kvs, _, _, h, r => by
    obtain ⟨a, kv, rfl, q, t⟩ := rep_dict.mp h
    cases r
    obtain ⟨_, _, vs, hk, o, es, ep, ho, hx, hd, _, hp, _⟩ := I.hok a _ (hs _ _ q)
    obtain ⟨as, h1⟩ := readsAll_keys (h := s.heap) hp hk t
    obtain ⟨bs, h2⟩ := RepD.reads I hs kvs kv vs t hk
    refine ⟨_, Reads.dict ho hx.1 hd h1 (bs := bs) ?_⟩
    rw [pairs_vals hp]
    exact h2
theorem RepL.reads (I : Inv X pins σ H s) (hs : Same F H) : ∀ (ds : List PyData) (vs : List V) (us : List Value), RepL X.K F vs ds → Vals vs us → ∃ as, ReadsAll s.heap us ds as
  | [], _, _, h, r => by
    cases repL_nil.mp h
    cases r
    exact ⟨_, .nil⟩
  | d :: ds, _, _, h, r => by
    obtain ⟨v, w, rfl, q, t⟩ := repL_cons.mp h
    cases r with
    | cons r1 r2 =>
      obtain ⟨as, h1⟩ := Rep.reads I hs d _ _ q r1
      obtain ⟨bs, h2⟩ := RepL.reads I hs ds _ _ t r2
      exact ⟨_, .cons h1 h2⟩
theorem RepD.reads (I : Inv X pins σ H s) (hs : Same F H) : ∀ (ps : List (PyData × PyData)) (kv : List (Key × V)) (us : List (Key × Value)), RepD X.K F kv ps → KV kv us → ∃ as, ReadsAll s.heap (us.map (·.2)) (ps.map (·.2)) as
  | [], kv, _, h, r => by
    simp only [RepD] at h
    subst h
    cases r
    exact ⟨_, .nil⟩
  | p :: ps, kv, _, h, r => by
    simp only [RepD] at h
    obtain ⟨k, v, w, rfl, q1, q2, t⟩ := h
    cases r with
    | cons r1 r2 =>
      obtain ⟨as, h1⟩ := Rep.reads I hs p.2 _ _ q2 r1.2
      obtain ⟨bs, h2⟩ := RepD.reads I hs ps _ _ t r2
      rw [List.map_cons, List.map_cons]
      exact ⟨_, .cons h1 h2⟩
end
theorem Bor.reads (I : Inv X pins σ H s) (hs : Same F H) {d : PyData} {v : V} {u : Value} (h : Bor X.K F H v d) (r : RelV v u) : ∃ as, Reads s.heap u d as := by
  rcases h with h | ⟨a, rfl, o⟩
  · exact Rep.reads I hs d v u h r
  · cases r
    cases d with
    | list ds =>
      obtain ⟨vs, q, t⟩ := o
      obtain ⟨its, rv, ⟨o, n, ho, hc, _, hd⟩, _⟩ := I.list (SqL.of q)
      obtain ⟨as, hr⟩ := RepL.reads I hs ds vs its t rv
      exact ⟨_, Reads.list ho hc hd hr⟩
    | dict kvs =>
      obtain ⟨kv, q, t⟩ := o
      obtain ⟨_, _, vs, hk, o, es, ep, ho, hx, hd, _, hp, _⟩ := I.hok a _ q
      obtain ⟨as, h1⟩ := readsAll_keys (h := s.heap) hp hk t
      obtain ⟨bs, h2⟩ := RepD.reads I hs kvs kv vs t hk
      refine ⟨_, Reads.dict ho hx.1 hd h1 (bs := bs) ?_⟩
      rw [pairs_vals hp]
      exact h2
    | _ => exact o.elim
end
/-! ### ==, !=, in of data -/
/-- lists of other lengths: the items are not looked at -/
def otherLen : PyData → PyData → Bool
  | .list xs, .list ys => xs.length != ys.length
  | _, _ => false
/-- texts, whatever their signs -/
def texts2 : PyData → PyData → Bool
  | .str _, .str _ => true
  | _, _ => false
def eqOk (x y : PyData) : Bool := (SeqAt.shaped x && SeqAt.shaped y) || otherLen x y || texts2 x y
def pyEq (x y : PyData) : Option RV := if eqOk x y then some (.d (.bool (PyData.eqv x y))) else none
def pyNe (x y : PyData) : Option RV := if eqOk x y then some (.d (.bool (!PyData.eqv x y))) else none
theorem if_some {c : Bool} {α : Type} {a b : α} (h : (if c = true then some a else none) = some b) : c = true ∧ a = b := by
  cases c with
  | true => exact ⟨rfl, Option.some.inj (by simpa using h)⟩
  | false => simp at h
def rEqB (K : PySem.W.Frag) (f : Bool → Bool) : R2 := fun x y H Q => ∃ F d e, Same F H ∧ Bor K F H x d ∧ Bor K F H y e ∧ eqOk d e = true ∧ Q (.bl (f (PyData.eqv d e))) H
section
variable {X : Cx}
theorem lists_of {pins : List (Addr × Obj)} {σ : L2.St} {F H : Hp} {s : Shared} {x y : V} {v u : Value} {d e : PyData} (I : Inv X pins σ H s) (hs : Same F H) (hd : Bor X.K F H x d) (he : Bor X.K F H y e) (rx : RelV x v) (ry : RelV y u) (h : otherLen d e = true) :
    ∃ (a b : Addr) (it jt : Array Value), v = .ref a ∧ u = .ref b ∧ s.heap.IsList a it ∧ s.heap.IsList b jt ∧ (it.size != jt.size) = true ∧ PyData.eqv d e = false := by
  cases d <;> cases e <;> first | (cases h; done) | skip
  rename_i xs ys
  have hne : xs.length ≠ ys.length := by simpa [otherLen] using h
  obtain ⟨a, vs, rfl, q, r⟩ := hd.seq hs
  obtain ⟨b, ws, rfl, q2, r2⟩ := he.seq hs
  cases rx
  cases ry
  obtain ⟨its, rv, p, _⟩ := I.list (SqL.of q)
  obtain ⟨jts, rw', p2, _⟩ := I.list (SqL.of q2)
  refine ⟨a, b, _, _, rfl, rfl, p.isList, p2.isList, ?_, SeqAt.eqvAll_other_length hne⟩
  have h1 := rv.length
  have h2 := rw'.length
  have h3 := r.length
  have h4 := r2.length
  simp only [List.size_toArray, bne_iff_ne, ne_eq]
  omega
theorem opd_eq (hu : X.A.units + 64 < cLine) : OpD X (compareOp .Eq) pyEq := by
  refine ⟨rEqB X.K id, ?_, ?_⟩
  · intro pins s σ H x y v u Q I rx ry h
    obtain ⟨F, d, e, hs, hd, he, ok, q⟩ := h
    unfold eqOk at ok
    rw [Bool.or_eq_true, Bool.or_eq_true, Bool.and_eq_true] at ok
    rcases ok with (⟨sd, se⟩ | ok) | ok
    · obtain ⟨as, r1⟩ := hd.reads I hs rx
      obtain ⟨bs, r2⟩ := he.reads I hs ry
      exact SeqAt.compareEq_shaped r1 r2 sd se hu ⟨.bl _, H, I, rfl, q⟩
    · obtain ⟨a, b, it, jt, rfl, rfl, p1, p2, hne, ev⟩ := lists_of I hs hd he rx ry ok
      rw [ev] at q
      exact SeqAt.RcAt.lists_lengths p1 p2 hne (by omega) X.prog X.w X.xe _ ⟨.bl _, H, I, rfl, q⟩
    · cases d <;> cases e <;> first | (cases ok; done) | skip
      rw [hd.str] at rx
      rw [he.str] at ry
      obtain ⟨t, rfl⟩ := rx
      obtain ⟨t', rfl⟩ := ry
      exact SeqAt.RcAt.str_str _ t _ t' X.prog X.w X.xe _ ⟨.bl _, H, I, rfl, q⟩
  · intro F H v w x y Q ev hs hx hy hg hq
    obtain ⟨h1, rfl⟩ := if_some hg
    exact ⟨F, x, y, hs, hx, hy, h1, hq.val hs (rep_bool.mpr rfl)⟩
theorem opd_ne (hu : X.A.units + 64 < cLine) : OpD X (compareOp .NotEq) pyNe := by
  refine ⟨rEqB X.K not, ?_, ?_⟩
  · intro pins s σ H x y v u Q I rx ry h
    obtain ⟨F, d, e, hs, hd, he, ok, q⟩ := h
    unfold eqOk at ok
    rw [Bool.or_eq_true, Bool.or_eq_true, Bool.and_eq_true] at ok
    rcases ok with (⟨sd, se⟩ | ok) | ok
    · obtain ⟨as, r1⟩ := hd.reads I hs rx
      obtain ⟨bs, r2⟩ := he.reads I hs ry
      exact SeqAt.compareNe_shaped r1 r2 sd se hu ⟨.bl _, H, I, rfl, q⟩
    · obtain ⟨a, b, it, jt, rfl, rfl, p1, p2, hne, ev⟩ := lists_of I hs hd he rx ry ok
      rw [ev] at q
      exact SeqAt.RcNeAt.lists_lengths p1 p2 hne (by omega) X.prog X.w X.xe _ ⟨.bl _, H, I, rfl, q⟩
    · cases d <;> cases e <;> first | (cases ok; done) | skip
      rw [hd.str] at rx
      rw [he.str] at ry
      obtain ⟨t, rfl⟩ := rx
      obtain ⟨t', rfl⟩ := ry
      exact SeqAt.RcNeAt.str_str _ t _ t' X.prog X.w X.xe _ ⟨.bl _, H, I, rfl, q⟩
  · intro F H v w x y Q ev hs hx hy hg hq
    obtain ⟨h1, rfl⟩ := if_some hg
    exact ⟨F, x, y, hs, hx, hy, h1, hq.val hs (rep_bool.mpr rfl)⟩
end
def rG (K : PySem.W.Frag) (g : PyData → PyData → Option RV) : R2 := fun x y H Q => ∃ F d e ev, Same F H ∧ Bor K F H x d ∧ Bor K F H y e ∧ g d e = some ev ∧ ResK K F H Q ev
theorem opd_of {X : Cx} {f : Value → Value → Sem Value} {g : PyData → PyData → Option RV} (h : OpR X f (rG X.K g)) : OpD X f g :=
  ⟨_, h, fun F _ _ _ x y _ ev hs hx hy hg hq => ⟨F, x, y, ev, hs, hx, hy, hg, hq⟩⟩
def rGu (K : PySem.W.Frag) (g : PyData → Option RV) : V → Hp → VK → Prop := fun x H Q => ∃ F d ev, Same F H ∧ Bor K F H x d ∧ g d = some ev ∧ ResK K F H Q ev
theorem und_of {X : Cx} {f : Value → Sem Value} {g : PyData → Option RV} (h : UnR X f (rGu X.K g)) : UnD X f g :=
  ⟨_, h, fun F _ _ x _ ev hs hx hg hq => ⟨F, x, ev, hs, hx, hg, hq⟩⟩
def rGc (K : PySem.W.Frag) (g : List PyData → Option RV) : List V → Hp → VK → Prop := fun xs H Q => ∃ F ds ev, Same F H ∧ Paired (Bor K F H) xs ds ∧ g ds = some ev ∧ ResK K F H Q ev
theorem calld_of {X : Cx} {f : Value} {g : List PyData → Option RV} (h : CallR X f (rGc X.K g)) : CallD X f g :=
  ⟨_, h, fun F _ _ xs _ ev hs hx hg hq => ⟨F, xs, ev, hs, hx, hg, hq⟩⟩
theorem roomIn {A : Around} {ds : List PyData} {d : PyData} (h : SeqAt.shaped d = true) (hu : A.units + 65 < cLine) : A.units + 1 + min (PyData.depthAll ds) d.depth < cLine := by
  have h1 := SeqAt.depth_of_shaped h
  have h2 : min (PyData.depthAll ds) d.depth ≤ d.depth := Nat.min_le_right _ _
  omega
/-- in, not in -/
def pyIn (neg : Bool) (x y : PyData) : Option RV := match y with
  | .list ds => if SeqAt.shaped x && SeqAt.shaped (.list ds) then some (.d (.bool (neg != ds.any fun z => PyData.eqv z x))) else none
  | .tuple ds => if SeqAt.shaped x && SeqAt.shaped (.tuple ds) then some (.d (.bool (neg != ds.any fun z => PyData.eqv z x))) else none
  | .str t => match x with
    | .str u => some (.d (.bool (neg != !(Builtin.Str.occurrences t u 0 t.length 1).isEmpty)))
    | _ => none
  | _ => none
section
variable {X : Cx}
theorem opd_in (hu : X.A.units + 65 < cLine) : OpD X (compareOp .In) (pyIn false) := by
  refine opd_of ?_
  intro pins s σ H x y v u Q I rx ry h
  obtain ⟨F, d, e, ev, hs, hd, he, hg, hq⟩ := h
  cases e with
  | list ds =>
    obtain ⟨as, r1⟩ := hd.reads I hs rx
    obtain ⟨bs, r2⟩ := he.reads I hs ry
    obtain ⟨h1, rfl⟩ := if_some hg
    rw [Bool.and_eq_true] at h1
    exact SeqAt.in_list_reads r2 r1 (SeqAt.canLay_of_shaped h1.2) (SeqAt.canLay_of_shaped h1.1) (roomIn h1.1 hu) ⟨.bl _, H, I, rfl, by simpa using hq.val hs (rep_bool.mpr rfl)⟩
  | tuple ds =>
    obtain ⟨as, r1⟩ := hd.reads I hs rx
    obtain ⟨bs, r2⟩ := he.reads I hs ry
    obtain ⟨h1, rfl⟩ := if_some hg
    rw [Bool.and_eq_true] at h1
    exact SeqAt.in_tuple_reads r2 r1 (SeqAt.canLay_of_shaped h1.2) (SeqAt.canLay_of_shaped h1.1) (roomIn h1.1 hu) ⟨.bl _, H, I, rfl, by simpa using hq.val hs (rep_bool.mpr rfl)⟩
  | str t =>
    cases d with
    | str z =>
      cases hg
      exact op_in_str pins s σ H x y v u Q I rx ry ⟨_, _, hd.str, he.str, by simpa using hq.val hs (rep_bool.mpr rfl)⟩
    | _ => cases hg
  | _ => cases hg
theorem opd_notin (hu : X.A.units + 65 < cLine) : OpD X (compareOp .NotIn) (pyIn true) := by
  refine opd_of ?_
  intro pins s σ H x y v u Q I rx ry h
  obtain ⟨F, d, e, ev, hs, hd, he, hg, hq⟩ := h
  cases e with
  | list ds =>
    obtain ⟨as, r1⟩ := hd.reads I hs rx
    obtain ⟨bs, r2⟩ := he.reads I hs ry
    obtain ⟨h1, rfl⟩ := if_some hg
    rw [Bool.and_eq_true] at h1
    exact SeqAt.notIn_list_reads r2 r1 (SeqAt.canLay_of_shaped h1.2) (SeqAt.canLay_of_shaped h1.1) (roomIn h1.1 hu) ⟨.bl _, H, I, rfl, by simpa using hq.val hs (rep_bool.mpr rfl)⟩
  | tuple ds =>
    obtain ⟨as, r1⟩ := hd.reads I hs rx
    obtain ⟨bs, r2⟩ := he.reads I hs ry
    obtain ⟨h1, rfl⟩ := if_some hg
    rw [Bool.and_eq_true] at h1
    exact SeqAt.notIn_tuple_reads r2 r1 (SeqAt.canLay_of_shaped h1.2) (SeqAt.canLay_of_shaped h1.1) (roomIn h1.1 hu) ⟨.bl _, H, I, rfl, by simpa using hq.val hs (rep_bool.mpr rfl)⟩
  | str t =>
    cases d with
    | str z =>
      cases hg
      exact op_notIn_str pins s σ H x y v u Q I rx ry ⟨_, _, hd.str, he.str, by simpa using hq.val hs (rep_bool.mpr rfl)⟩
    | _ => cases hg
  | _ => cases hg
/-- is, is not: with None, or of bools -/
def pyIs (neg : Bool) (x y : PyData) : Option RV := match y with
  | .none => match x with
    | .none => some (.d (.bool (!neg)))
    | _ => some (.d (.bool neg))
  | .bool b => match x with
    | .bool a => some (.d (.bool (neg != decide (a = b))))
    | _ => none
  | _ => none
def isNone : PyData → Bool
  | .none => true
  | _ => false
theorem Bor.isnone {K : PySem.W.Frag} {F H : Hp} {v : V} {x : PyData} (h : Bor K F H v x) : decide (v = .non) = isNone x := by
  cases x with
  | none => have e := h.none; subst e; rfl
  | bool b => have e := h.bool; subst e; rfl
  | int b => have e := h.int; subst e; rfl
  | str b => have e := h.str; subst e; rfl
  | list b =>
    rcases h with h | ⟨a, rfl, _⟩
    · obtain ⟨_, _, rfl, _⟩ := rep_list.mp h; rfl
    · rfl
  | tuple b =>
    rcases h with h | ⟨a, rfl, _⟩
    · obtain ⟨_, _, rfl, _⟩ := rep_tup.mp h; rfl
    · rfl
  | dict b =>
    rcases h with h | ⟨a, rfl, _⟩
    · obtain ⟨_, _, rfl, _⟩ := rep_dict.mp h; rfl
    · rfl
theorem opd_is : OpD X (compareOp .Is) (pyIs false) := by
  refine opd_of ?_
  intro pins s σ H x y v u Q I rx ry h
  obtain ⟨F, d, e, ev, hs, hd, he, hg, hq⟩ := h
  cases e with
  | none =>
    refine op_isN pins s σ H x y v u Q I rx ry ⟨he.none, ?_⟩
    rw [hd.isnone]
    cases d <;> (cases hg; exact hq.val hs (rep_bool.mpr rfl))
  | bool b =>
    cases d with
    | bool a =>
      cases hg
      exact op_isBl pins s σ H x y v u Q I rx ry ⟨a, b, hd.bool, he.bool, by simpa using hq.val hs (rep_bool.mpr rfl)⟩
    | _ => cases hg
  | _ => cases hg
theorem opd_isnot : OpD X (compareOp .IsNot) (pyIs true) := by
  refine opd_of ?_
  intro pins s σ H x y v u Q I rx ry h
  obtain ⟨F, d, e, ev, hs, hd, he, hg, hq⟩ := h
  cases e with
  | none =>
    refine op_notN pins s σ H x y v u Q I rx ry ⟨he.none, ?_⟩
    rw [hd.isnone]
    cases d <;> (cases hg; exact hq.val hs (rep_bool.mpr rfl))
  | bool b =>
    cases d with
    | bool a =>
      cases hg
      exact op_notBl pins s σ H x y v u Q I rx ry ⟨a, b, hd.bool, he.bool, by simpa using hq.val hs (rep_bool.mpr rfl)⟩
    | _ => cases hg
  | _ => cases hg
/-- <, <=, >, >= of ints -/
def pyCmpI (p : Int → Int → Bool) (x y : PyData) : Option RV := match x, y with
  | .int i, .int j => some (.d (.bool (p i j)))
  | _, _ => none
theorem opd_cmpI {f : Value → Value → Sem Value} {p : Int → Int → Bool} (h : OpR X f (rI0 fun i j => .bl (p i j))) : OpD X f (pyCmpI p) := by
  refine opd_of ?_
  intro pins s σ H x y v u Q I rx ry hh
  obtain ⟨F, d, e, ev, hs, hd, he, hg, hq⟩ := hh
  cases d <;> cases e <;> first | (cases hg; done) | skip
  rename_i i j
  cases hg
  exact h pins s σ H x y v u Q I rx ry ⟨i, j, hd.int, he.int, hq.val hs (rep_bool.mpr rfl)⟩
theorem opd_lt : OpD X (compareOp .Lt) (pyCmpI fun i j => decide (i < j)) := opd_cmpI op_lt
theorem opd_le : OpD X (compareOp .LtE) (pyCmpI fun i j => decide (i ≤ j)) := opd_cmpI op_le
theorem opd_gt : OpD X (compareOp .Gt) (pyCmpI fun i j => decide (j < i)) := opd_cmpI op_gt
theorem opd_ge : OpD X (compareOp .GtE) (pyCmpI fun i j => decide (j ≤ i)) := opd_cmpI op_ge
/-- + -/
def pyAdd (x y : PyData) : Option RV := match x, y with
  | .int i, .int j => some (.d (.int (i + j)))
  | .list a, .list b => if decide (a.length + b.length ≤ sizeLine) then some (.fr (.list (a ++ b))) else none
  | .tuple a, .tuple b => if decide (a.length + b.length ≤ sizeLine) then some (.d (.tuple (a ++ b))) else none
  | .str a, .str b => if decide (a.length + b.length ≤ sizeLine) then some (.d (.str (a ++ b))) else none
  | _, _ => none
theorem opd_add : OpD X (binaryOp .Add) pyAdd := by
  refine opd_of ?_
  intro pins s σ H x y v u Q I rx ry h
  obtain ⟨F, d, e, ev, hs, hd, he, hg, hq⟩ := h
  cases d <;> cases e <;> first | (cases hg; done) | skip
  · cases hg
    exact op_add pins s σ H x y v u Q I rx ry ⟨_, _, hd.int, he.int, hq.val hs (rep_int.mpr rfl)⟩
  · obtain ⟨h1, rfl⟩ := if_some hg
    exact op_add_str pins s σ H x y v u Q I rx ry ⟨_, _, hd.str, he.str, of_decide_eq_true h1, hq.val hs (rep_str.mpr rfl)⟩
  · obtain ⟨h1, rfl⟩ := if_some hg
    obtain ⟨a, vs, e1, q1, r1⟩ := hd.seq hs
    obtain ⟨b, ws, e2, q2, r2⟩ := he.seq hs
    have h2 := of_decide_eq_true h1
    exact op_cat pins s σ H x y v u Q I rx ry ⟨a, b, vs, ws, e1, e2, q1, q2, by rw [r1.length, r2.length]; exact h2, fun p hp => hq.lst hs hp (r1.append r2)⟩
  · obtain ⟨h1, rfl⟩ := if_some hg
    obtain ⟨a, vs, e1, q1, r1⟩ := hd.tup hs
    obtain ⟨b, ws, e2, q2, r2⟩ := he.tup hs
    have h2 := of_decide_eq_true h1
    refine op_catA pins s σ H x y v u Q I rx ry ⟨a, b, vs, ws, e1, e2, q1, q2, by rw [r1.length, r2.length]; exact h2, fun hz => ?_, fun hz hz2 => ?_, fun _ _ p hp => hq.tup hs hp (r1.append r2)⟩
    · subst hz
      rename_i ds es
      have hn : ds = [] := by
        cases ds with
        | nil => rfl
        | cons _ _ => have := r1.length; simp at this
      subst hn
      refine hq.val hs ?_
      rcases he with he | ⟨_, _, o⟩
      · rw [e2] at he; exact he
      · exact o.elim
    · subst hz2
      rename_i ds es
      have hn : es = [] := by
        cases es with
        | nil => rfl
        | cons _ _ => have := r2.length; simp at this
      subst hn
      rw [List.append_nil] at hq
      refine hq.val hs ?_
      rcases hd with hd | ⟨_, _, o⟩
      · rw [e1] at hd; exact hd
      · exact o.elim
def pySub (x y : PyData) : Option RV := match x, y with
  | .int i, .int j => some (.d (.int (i - j)))
  | _, _ => none
theorem opd_sub : OpD X (binaryOp .Sub) pySub := by
  refine opd_of ?_
  intro pins s σ H x y v u Q I rx ry h
  obtain ⟨F, d, e, ev, hs, hd, he, hg, hq⟩ := h
  cases d <;> cases e <;> first | (cases hg; done) | skip
  cases hg
  exact op_sub pins s σ H x y v u Q I rx ry ⟨_, _, hd.int, he.int, hq.val hs (rep_int.mpr rfl)⟩
/-- one factor below 2 ^ 64, or both together below a million bits -/
def mulOk (i j : Int) : Bool := decide (i.natAbs < 2 ^ 64) || decide (j.natAbs < 2 ^ 64) || decide (i.natAbs.log2 + j.natAbs.log2 < 1000000)
def pyMul (x y : PyData) : Option RV := match x, y with
  | .int i, .int j => if mulOk i j then some (.d (.int (i * j))) else none
  | .list ds, .int k => if decide (k.natAbs < 2 ^ 62) && decide (ds.length * k.toNat ≤ sizeLine) then some (.fr (.list (List.replicate k.toNat ds).flatten)) else none
  | _, _ => none
theorem RepL.rep {K : PySem.W.Frag} {F : Hp} {ds : List PyData} {vs : List V} (h : RepL K F vs ds) : ∀ n : Nat, RepL K F (List.replicate n vs).flatten (List.replicate n ds).flatten
  | 0 => repL_nil.mpr rfl
  | n + 1 => by
    rw [List.replicate_succ, List.replicate_succ, List.flatten_cons, List.flatten_cons]
    exact RepL.append h (RepL.rep h n)
theorem opd_mul : OpD X (binaryOp .Mult) pyMul := by
  refine opd_of ?_
  intro pins s σ H x y v u Q I rx ry h
  obtain ⟨F, d, e, ev, hs, hd, he, hg, hq⟩ := h
  cases d <;> cases e <;> first | (cases hg; done) | skip
  rotate_left
  · rename_i ds k
    obtain ⟨h1, rfl⟩ := if_some hg
    rw [Bool.and_eq_true, decide_eq_true_eq, decide_eq_true_eq] at h1
    obtain ⟨a, vs, rfl, q, r⟩ := hd.seq hs
    refine op_rep pins s σ H _ _ v u Q I rx ry ⟨a, k, vs, rfl, he.int, q, by omega, by omega, by rw [r.length]; exact h1.2, fun p hp => ?_⟩
    exact ResK.lst hs hq hp (RepL.rep r _)
  rename_i i j
  obtain ⟨h1, rfl⟩ := if_some hg
  have q := hq.val hs (rep_int.mpr rfl)
  unfold mulOk at h1
  rw [Bool.or_eq_true, Bool.or_eq_true] at h1
  rcases h1 with (h1 | h1) | h1
  · have h2 := of_decide_eq_true h1
    exact op_mul pins s σ H x y v u Q I rx ry ⟨_, _, hd.int, he.int, .inl (by omega), q⟩
  · have h2 := of_decide_eq_true h1
    exact op_mul pins s σ H x y v u Q I rx ry ⟨_, _, hd.int, he.int, .inr (by omega), q⟩
  · exact op_mulW pins s σ H x y v u Q I rx ry ⟨_, _, hd.int, he.int, (have z : i.natAbs.log2 + j.natAbs.log2 < 1000000 := of_decide_eq_true h1; z), q⟩
def pyFloorDiv (x y : PyData) : Option RV := match x, y with
  | .int i, .int j => if decide (0 < j) && decide (j.natAbs.log2 < 9000) then some (.d (.int (i / j))) else none
  | _, _ => none
theorem opd_fdiv : OpD X (binaryOp .FloorDiv) pyFloorDiv := by
  refine opd_of ?_
  intro pins s σ H x y v u Q I rx ry h
  obtain ⟨F, d, e, ev, hs, hd, he, hg, hq⟩ := h
  cases d <;> cases e <;> first | (cases hg; done) | skip
  obtain ⟨h1, rfl⟩ := if_some hg
  rw [Bool.and_eq_true] at h1
  exact op_fdivW pins s σ H x y v u Q I rx ry ⟨_, _, hd.int, he.int, ⟨of_decide_eq_true h1.1, of_decide_eq_true h1.2⟩, hq.val hs (rep_int.mpr rfl)⟩
def pyMod (x y : PyData) : Option RV := match x, y with
  | .int i, .int j => if decide (0 < j) then some (.d (.int (i % j))) else none
  | _, _ => none
theorem opd_mod : OpD X (binaryOp .Mod) pyMod := by
  refine opd_of ?_
  intro pins s σ H x y v u Q I rx ry h
  obtain ⟨F, d, e, ev, hs, hd, he, hg, hq⟩ := h
  cases d <;> cases e <;> first | (cases hg; done) | skip
  obtain ⟨h1, rfl⟩ := if_some hg
  exact op_mod pins s σ H x y v u Q I rx ry ⟨_, _, hd.int, he.int, of_decide_eq_true h1, hq.val hs (rep_int.mpr rfl)⟩
def pyPow (x y : PyData) : Option RV := match x, y with
  | .int i, .int j => if decide (0 ≤ j) && decide (j ≤ 1000000) && decide (i.natAbs < 2 ^ 64) then some (.d (.int (i ^ j.toNat))) else none
  | _, _ => none
theorem opd_pow : OpD X (binaryOp .Pow) pyPow := by
  refine opd_of ?_
  intro pins s σ H x y v u Q I rx ry h
  obtain ⟨F, d, e, ev, hs, hd, he, hg, hq⟩ := h
  cases d <;> cases e <;> first | (cases hg; done) | skip
  obtain ⟨h1, rfl⟩ := if_some hg
  rw [Bool.and_eq_true, Bool.and_eq_true] at h1
  exact op_pow pins s σ H x y v u Q I rx ry ⟨_, _, hd.int, he.int, ⟨of_decide_eq_true h1.1.1, of_decide_eq_true h1.1.2, of_decide_eq_true h1.2⟩, hq.val hs (rep_int.mpr rfl)⟩
def pyNeg (x : PyData) : Option RV := match x with
  | .int i => some (.d (.int (-i)))
  | _ => none
theorem und_neg : UnD X (unaryOp .USub) pyNeg := by
  refine und_of ?_
  intro pins s σ H x v Q I rx h
  obtain ⟨F, d, ev, hs, hd, hg, hq⟩ := h
  cases d <;> first | (cases hg; done) | skip
  cases hg
  exact un_neg pins s σ H x v Q I rx ⟨_, hd.int, hq.val hs (rep_int.mpr rfl)⟩
end
end DL
namespace DL
open PySem L2
theorem get_set_self {α : Type} {l : List α} {i : Nat} {x y : α} (h : l[i]? = some y) : (l.set i x)[i]? = some x := by
  obtain ⟨h1, _⟩ := List.getElem?_eq_some_iff.mp h
  simp [h1]
theorem get_set_ne {α : Type} {l : List α} {i j : Nat} {x : α} (h : i ≠ j) : (l.set i x)[j]? = l[j]? := by
  simp [h]
theorem get_set_cases {α : Type} {l : List α} {i j : Nat} {x y : α} (h : (l.set i x)[j]? = some y) : (i = j ∧ x = y) ∨ (i ≠ j ∧ l[j]? = some y) := by
  by_cases e : i = j
  · subst e
    have hl : i < l.length := by
      obtain ⟨h1, _⟩ := List.getElem?_eq_some_iff.mp h
      simpa using h1
    rw [List.getElem?_set_self hl] at h
    exact .inl ⟨rfl, Option.some.inj h⟩
  · rw [get_set_ne e] at h
    exact .inr ⟨e, h⟩
section
variable {C : DCx} {σ : L2.St} {F H : Hp} {l : Loc} {env : Env'} {g : G}
theorem SrcRep.grow {a : Addr} {o : HO} (r : SrcRep F H l g) (hs : ¬ SrcAt l a) : SrcRep (upd F a o) H l g := by
  cases l with
  | none => cases g with
    | none => trivial
    | some s => exact r.elim
  | some p => cases g with
    | none => exact r.elim
    | some s =>
      obtain ⟨h1, h2, h3, h4, h5⟩ := r
      have n1 : p.1 ≠ a := fun e => hs ⟨p, rfl, .inl e.symm⟩
      have n2 : p.2 ≠ a := fun e => hs ⟨p, rfl, .inr e.symm⟩
      exact ⟨h1, h2, h3, by rw [upd_ne n1]; exact h4, by rw [upd_ne n2]; exact h5⟩
/-- a fresh object becomes data -/
theorem Rel.frz (R : Rel C σ F H l env g) {a : Addr} {x : PyData} (o : OwnRep C.K F H a x) (hf : F a = none) (h0 : C.H0 a = none) (hs : ¬ SrcAt l a) (ho : ¬ OwnAt σ env a) :
    ∃ u, H a = some u ∧ Rel C σ (upd F a u) H l env g ∧ Rep C.K (upd F a u) (V.ref a) x := by
  obtain ⟨u, hu, rp⟩ := o.freeze hf
  have up : Same F (upd F a u) := Same.upd hf
  refine ⟨u, hu, ⟨fun b w e => ?_, R.len, fun i y e => ?_, fun i y e => ?_, R.inj, fun i ns e => ?_, R.isrc, R.src.grow hs, R.old, R.oldd, R.f0.trans up, fun b e => ?_, R.lo, R.l0⟩, rp⟩
  · by_cases hb : b = a
    · subst hb; rw [upd_same] at e; cases e; exact hu
    · rw [upd_ne hb] at e; exact R.sub _ _ e
  · obtain ⟨v, h1, h2⟩ := R.dat i y e
    exact ⟨v, h1, Rep.up up _ _ h2⟩
  · obtain ⟨b, h1, h2, h3, h4, h5⟩ := R.own i y e
    have hb : b ≠ a := fun z => ho ⟨i, y, e, by rw [← z]; exact h1⟩
    exact ⟨b, h1, h2.up up fun _ q => q, by rw [upd_ne hb]; exact h3, h4, h5⟩
  · obtain ⟨b, h1, h2⟩ := R.iscr i ns e
    exact ⟨b, h1, up.seq h2⟩
  · by_cases hb : b = a
    · subst hb; exact .inr h0
    · rw [upd_ne hb] at e; exact R.fo b e
/-- a slot's own object becomes data -/
theorem Rel.leak (R : Rel C σ F H l env g) {i : Nat} {x : PyData} (e : env[i]? = some (Slot.own x)) :
    ∃ (a : Addr) (u : HO), σ[i]? = some (some (V.ref a)) ∧ H a = some u ∧ F a = none ∧ OwnAt σ env a ∧ Rel C σ (upd F a u) H l (env.set i (Slot.d x)) g ∧ Rep C.K (upd F a u) (V.ref a) x := by
  obtain ⟨a, h1, h2, h3, h4, h5⟩ := R.own i x e
  obtain ⟨u, hu, rp⟩ := h2.freeze h3
  have up : Same F (upd F a u) := Same.upd h3
  refine ⟨a, u, h1, hu, h3, ⟨i, x, e, h1⟩, ⟨fun b w q => ?_, by rw [List.length_set]; exact R.len, fun j y q => ?_, fun j y q => ?_, fun j k y z b q1 q2 => ?_, fun j ns q => ?_, fun j bb q => ?_, R.src.grow h5, R.old, R.oldd, R.f0.trans up, fun b q => ?_, R.lo, R.l0⟩, rp⟩
  · by_cases hb : b = a
    · subst hb; rw [upd_same] at q; cases q; exact hu
    · rw [upd_ne hb] at q; exact R.sub _ _ q
  · rcases get_set_cases q with ⟨z, w⟩ | ⟨z, q⟩
    · subst z; cases w; exact ⟨_, h1, rp⟩
    · obtain ⟨v, g1, g2⟩ := R.dat j y q
      exact ⟨v, g1, Rep.up up _ _ g2⟩
  · rcases get_set_cases q with ⟨z, w⟩ | ⟨z, q⟩
    · cases w
    · obtain ⟨b, g1, g2, g3, g4, g5⟩ := R.own j y q
      have hb : b ≠ a := fun w => z (R.inj i j x y a e q h1 (by rw [← w]; exact g1))
      exact ⟨b, g1, g2.up up fun _ q => q, by rw [upd_ne hb]; exact g3, g4, g5⟩
  · rcases get_set_cases q1 with ⟨z, w⟩ | ⟨z, q1⟩
    · cases w
    · rcases get_set_cases q2 with ⟨z, w⟩ | ⟨z, q2⟩
      · cases w
      · exact R.inj j k y _ b q1 q2
  · rcases get_set_cases q with ⟨z, w⟩ | ⟨z, q⟩
    · cases w
    · obtain ⟨b, g1, g2⟩ := R.iscr j ns q
      exact ⟨b, g1, up.seq g2⟩
  · rcases get_set_cases q with ⟨z, w⟩ | ⟨z, q⟩
    · cases w
    · exact R.isrc j _ q
  · by_cases hb : b = a
    · subst hb; exact .inr h4
    · rw [upd_ne hb] at q; exact R.fo b q
theorem Ext.leak {i : Nat} {x : PyData} {a : Addr} {u : HO} (hf : F a = none) (ho : OwnAt σ env a) : Ext σ F H l env (upd F a u) H l (env.set i (Slot.d x)) :=
  ⟨Same.upd hf, fun _ e => e, fun _ _ e _ _ => e, fun b e => by
    by_cases hb : b = a
    · subst hb; exact .inr (.inr ho)
    · rw [upd_ne hb] at e; exact .inl e, fun b ⟨j, y, e, h⟩ => by
    rcases get_set_cases e with ⟨z, w⟩ | ⟨z, q⟩
    · cases w
    · exact ⟨j, y, q, h⟩, fun _ e => e, fun _ e => .inl e⟩
theorem Ext.frz {F1 H1 : Hp} {l1 : Loc} {env1 : Env'} {a : Addr} {u : HO} (x : Ext σ F H l env F1 H1 l1 env1) (hf : F1 a = none) (hn : H a = none) : Ext σ F H l env (upd F1 a u) H1 l1 env1 :=
  ⟨x.fs.trans (Same.upd hf), x.hd, x.hk, fun b e => by
    by_cases hb : b = a
    · subst hb; exact .inr (.inl hn)
    · rw [upd_ne hb] at e; exact x.gr b e, x.ow, x.ls, x.ln⟩
end
/-! ### expressions: constants, names -/
def mK (x : PyData) : M EV := M.pure (.d x)
/-- a name, handed on: what it owned is data from now on -/
def mVar (i : Nat) : M EV := fun env g => match env[i]? with
  | some (.d x) => .ok (.d x) env g
  | some (.own x) => .ok (.d x) (env.set i (.d x)) g
  | some (.src b) => .ok (.src b) env g
  | some (.scr ns) => .ok (.scr ns) env g
  | _ => .bad
/-- a name, for reading -/
def mVarB (i : Nat) : M EV := fun env g => match env[i]? with
  | some (.d x) => .ok (.d x) env g
  | some (.own _) => .ok (.bo i) env g
  | some (.src b) => .ok (.src b) env g
  | some (.scr ns) => .ok (.scr ns) env g
  | _ => .bad
def mFrz : EV → M PyData
  | .d x => M.pure x
  | .fr x => M.pure x
  | _ => M.bad
section
variable {X : Cx} {C : DCx} {e : Expr} {es : List Expr} {pos : Pos}
theorem de_const {x : PyData} {v : V} (h : PE X e (tC v)) (r : ∀ F, Rep C.K F v x) : DE X C e (mK x) :=
  ⟨fun _ => ⟨_, h, fun σ F H l env g Q R w => w v F H l R .refl (r F) trivial⟩⟩
theorem de_int {i : Int} {j : Nat} {p : Pos} : DE X C (.Constant (.int i) j p) (mK (.int i)) := de_const pe_int fun _ => rep_int.mpr rfl
theorem de_bool {i : Bool} {j : Nat} {p : Pos} : DE X C (.Constant (.bool i) j p) (mK (.bool i)) := de_const pe_bl fun _ => rep_bool.mpr rfl
theorem de_none {j : Nat} {p : Pos} : DE X C (.Constant .none j p) (mK .none) := de_const pe_non fun _ => rep_none.mpr rfl
theorem de_str {i : Str} {j : Nat} {p : Pos} : DE X C (.Constant (.str i) j p) (mK (.str i)) := de_const pe_str fun _ => rep_str.mpr rfl
/-- a module's own constant -/
theorem de_glob {x : Str} {u : Value} {d : PyData} {v : V} {p : Pos} (hg : Gl X x) (hm : X.mg x = some u) (rv : RelV v u) (r : ∀ F, Rep C.K F v d) (hd : (x == ("__debug__" : Str)) = false := by decide) : DE X C (.Name x p) (mK d) :=
  de_const (pe_glob hg hm rv hd) r
theorem de_var {i : Nat} (h : PE X e (tVar i)) : DE X C e (mVar i) := by
  refine ⟨fun _ => ⟨_, h, fun σ F H l env g Q R w => ?_⟩⟩
  unfold mVar at w
  split at w
  · rename_i x q
    obtain ⟨v, h1, h2⟩ := R.dat i x q
    exact ⟨v, h1, w v F H l R .refl h2 trivial⟩
  · rename_i x q
    obtain ⟨a, u, h1, h2, h3, h4, h5, h6⟩ := R.leak q
    exact ⟨_, h1, w _ _ H l h5 (Ext.leak h3 h4) h6 trivial⟩
  · rename_i q
    obtain ⟨d, c, h1, h2⟩ := R.isrc i _ q
    exact ⟨_, h2, w _ F H l R .refl ⟨d, c, h1, rfl⟩ trivial⟩
  · rename_i ns q
    obtain ⟨a, h1, h2⟩ := R.iscr i ns q
    exact ⟨_, h1, w _ F H l R .refl ⟨a, rfl, h2⟩ trivial⟩
  · exact w.elim
theorem de_varB {i : Nat} (h : PE X e (tVar i)) : DE X C e (mVarB i) := by
  refine ⟨fun _ => ⟨_, h, fun σ F H l env g Q R w => ?_⟩⟩
  unfold mVarB at w
  split at w
  · rename_i x q
    obtain ⟨v, h1, h2⟩ := R.dat i x q
    exact ⟨v, h1, w v F H l R .refl h2 trivial⟩
  · rename_i x q
    obtain ⟨a, h1, _⟩ := R.own i x q
    exact ⟨_, h1, w _ F H l R .refl h1 trivial⟩
  · rename_i q
    obtain ⟨d, c, h1, h2⟩ := R.isrc i _ q
    exact ⟨_, h2, w _ F H l R .refl ⟨d, c, h1, rfl⟩ trivial⟩
  · rename_i ns q
    obtain ⟨a, h1, h2⟩ := R.iscr i ns q
    exact ⟨_, h1, w _ F H l R .refl ⟨a, rfl, h2⟩ trivial⟩
  · exact w.elim
/-- frozen -/
theorem dd_of {m : M EV} (h : DE X C e m) : DD X C e (m.bind mFrz) := by
  refine ⟨fun hK => ?_⟩
  obtain ⟨t, ht, s⟩ := h.run hK
  refine ⟨t, ht, fun σ F H l env g Q R w => s σ F H l env g Q R (Wp.mono (Wp.bind.mp w) (fun ev env' g' w v F' H' l' R' x r f => ?_) fun _ _ _ _ w => w)⟩
  cases ev with
  | d y => exact w v F' H' l' R' x r
  | fr y =>
    obtain ⟨a, rfl, h2, h3, h4, h5, h6⟩ := r
    obtain ⟨u, hu, R2, rp⟩ := R'.frz h2 h3 h4 h5 h6
    exact w _ _ H' l' R2 (x.frz h3 (f a rfl)) rp
  | _ => exact w.elim
/-! ### two operands -/
def mBin (gop : PyData → PyData → Option RV) (ma mb : M EV) : M EV := ma.bind fun a => mb.bind fun b => fun env g =>
  match look env a, look env b with
  | some x, some y => M.opt ((gop x y).map RV.ev) env g
  | _, _ => .bad
def mUn (gop : PyData → Option RV) (ma : M EV) : M EV := ma.bind fun a => fun env g =>
  match look env a with
  | some x => M.opt ((gop x).map RV.ev) env g
  | _ => .bad
theorem simBin {r : R2} {gop : PyData → PyData → Option RV} {ta tb : TE} {ma mb : M EV} (ha : SimE C ta ma) (hb : SimE C tb mb)
    (hr : ∀ (F H : Hp) (v w : V) (x y : PyData) (Q : VK) (ev : RV), Same F H → Bor C.K F H v x → Bor C.K F H w y → gop x y = some ev → ResK C.K F H Q ev → r v w H Q) : SimE C (tOp r ta tb) (mBin gop ma mb) := by
  intro σ F H l env g Q R w
  refine ha σ F H l env g _ R (Wp.mono (Wp.bind.mp w) (fun a env1 g1 w v F1 H1 l1 R1 x1 r1 f1 => ?_) fun _ _ _ _ w => w)
  refine hb σ F1 H1 l1 env1 g1 _ R1 (Wp.mono (Wp.bind.mp w) (fun b env2 g2 w u F2 H2 l2 R2 x2 r2 f2 => ?_) fun _ _ _ _ w => w)
  have x02 := x1.trans (C := C) x2
  have r1' := r1.up x2
  split at w
  · rename_i x y e1 e2
    cases hg : gop x y with
    | none => rw [hg] at w; exact w.elim
    | some ev =>
      rw [hg] at w
      exact hr F2 H2 v u x y Q ev R2.sub (r1'.look R2 e1) (r2.look R2 e2) hg (KE.res R2 (KE.up w x02))
  · exact w.elim
theorem de_bin {a b : Expr} {op : Operator} {gop : PyData → PyData → Option RV} {ma mb : M EV} (ho : OpD X (binaryOp op) gop) (ha : DE X C a ma) (hb : DE X C b mb) : DE X C (.BinOp a op b pos) (mBin gop ma mb) := by
  refine ⟨fun hK => ?_⟩
  obtain ⟨ta, h1, s1⟩ := ha.run hK
  obtain ⟨tb, h2, s2⟩ := hb.run hK
  obtain ⟨r, hr, hs⟩ := ho
  exact ⟨_, pe_op hr h1 h2, simBin s1 s2 (by rw [hK]; exact hs)⟩
theorem de_cmp {a b : Expr} {op : CmpOp} {gop : PyData → PyData → Option RV} {ma mb : M EV} (ho : OpD X (compareOp op) gop) (ha : DE X C a ma) (hb : DE X C b mb) (hm : behindInMarks op b = false) : DE X C (.Compare a [op] [b] pos) (mBin gop ma mb) := by
  refine ⟨fun hK => ?_⟩
  obtain ⟨ta, h1, s1⟩ := ha.run hK
  obtain ⟨tb, h2, s2⟩ := hb.run hK
  obtain ⟨r, hr, hs⟩ := ho
  exact ⟨_, pe_cmpR hr h1 h2 hm, simBin s1 s2 (by rw [hK]; exact hs)⟩
theorem de_un {a : Expr} {op : UnaryOp} {gop : PyData → Option RV} {ma : M EV} (ho : UnD X (unaryOp op) gop) (ha : DE X C a ma) : DE X C (.UnaryOp op a pos) (mUn gop ma) := by
  refine ⟨fun hK => ?_⟩
  obtain ⟨ta, h1, s1⟩ := ha.run hK
  obtain ⟨r, hr, hs⟩ := ho
  refine ⟨_, pe_un hr h1, fun σ F H l env g Q R w => ?_⟩
  refine s1 σ F H l env g _ R (Wp.mono (Wp.bind.mp w) (fun a env1 g1 w v F1 H1 l1 R1 x1 r1 f1 => ?_) fun _ _ _ _ w => w)
  split at w
  · rename_i x e1
    cases hg : gop x with
    | none => rw [hg] at w; exact w.elim
    | some ev =>
      rw [hg] at w
      exact hs F1 H1 v x Q ev R1.sub (by rw [← hK]; exact r1.look R1 e1) hg (by rw [← hK]; exact KE.res R1 (KE.up w x1))
  · exact w.elim
theorem RepEV.isb {C : DCx} {σ : L2.St} {F H : Hp} {l : Loc} {env : Env'} {v : V} {b : Bool} (h : RepEV C σ F H l env v (.d (.bool b))) : v = .bl b := by
  have h : Rep C.K F v (.bool b) := h
  exact rep_bool.mp h
theorem RepEV.ofb {C : DCx} {σ : L2.St} {F H : Hp} {l : Loc} {env : Env'} {b : Bool} : RepEV C σ F H l env (.bl b) (.d (.bool b)) := by
  show Rep C.K F (.bl b) (.bool b)
  exact rep_bool.mpr rfl
/-! ### tests -/
def mBool : EV → M Bool
  | .d (.bool b) => M.pure b
  | _ => M.bad
theorem simTest {t : TE} {m : M EV} (h : SimE C t m) : SimT C (tTest t) (m.bind mBool) := by
  intro σ F H l env g Q R w
  refine h σ F H l env g _ R (Wp.mono (Wp.bind.mp w) (fun a env1 g1 w v F1 H1 l1 R1 x1 r1 f1 => ?_) fun _ _ _ _ w => w)
  cases a with
  | d y =>
    cases y with
    | bool b => exact ⟨b, r1.isb, w F1 H1 l1 R1 x1⟩
    | _ => exact w.elim
  | _ => exact w.elim
theorem dt_cmp {a b : Expr} {op : CmpOp} {gop : PyData → PyData → Option RV} {ma mb : M EV} (ho : OpD X (compareOp op) gop) (ha : DE X C a ma) (hb : DE X C b mb) (hm : behindInMarks op b = false) : DT X C (.Compare a [op] [b] pos) ((mBin gop ma mb).bind mBool) := by
  refine ⟨fun hK => ?_⟩
  obtain ⟨ta, h1, s1⟩ := ha.run hK
  obtain ⟨tb, h2, s2⟩ := hb.run hK
  obtain ⟨r, hr, hs⟩ := ho
  exact ⟨_, pt_cmpR hr h1 h2 hm, simTest (simBin s1 s2 (by rw [hK]; exact hs))⟩
theorem dt_val {m : M EV} (h : DE X C e m) (he : ∀ whole, isTrue e X.env whole = (do let v ← whole; standAt e.pos; holding [v] (truthy v)) := by intro _; rfl) : DT X C e (m.bind mBool) := by
  refine ⟨fun hK => ?_⟩
  obtain ⟨t, h1, s1⟩ := h.run hK
  exact ⟨_, pt_val h1 he, simTest s1⟩
def mAndT (ma mb : M Bool) : M Bool := ma.bind fun a => if a then mb else M.pure false
def mOrT (ma mb : M Bool) : M Bool := ma.bind fun a => if a then M.pure true else mb
def mNotT (ma : M Bool) : M Bool := ma.bind fun a => M.pure (!a)
theorem dw_and1 {a : Expr} {ma : M Bool} (ha : DT X C a ma) : DW X C (.BoolOp .And [a] pos) ma := ⟨fun hK => let ⟨t, h, s⟩ := ha.run hK; ⟨t, pw_and1 h, s⟩⟩
theorem dw_or1 {a : Expr} {ma : M Bool} (ha : DT X C a ma) : DW X C (.BoolOp .Or [a] pos) ma := ⟨fun hK => let ⟨t, h, s⟩ := ha.run hK; ⟨t, pw_or1 h, s⟩⟩
theorem DW.dt {ma : M Bool} (h : DW X C e ma) : DT X C e ma := ⟨fun hK => let ⟨t, h, s⟩ := h.run hK; ⟨t, h.pt, s⟩⟩
theorem KT.up {σ : L2.St} {F H F1 H1 : Hp} {l l1 : Loc} {env env1 : Env'} {Q : Bool → Hp → Prop} {b : Bool} {env' : Env'} {g' : G} (h : KT C σ F H l env Q b env' g') (x : Ext σ F H l env F1 H1 l1 env1) : KT C σ F1 H1 l1 env1 Q b env' g' :=
  fun F' H' l' r y => h F' H' l' r (x.trans (C := C) y)
theorem dw_and {a b : Expr} {rest : List Expr} {ma mb : M Bool} (ha : DT X C a ma) (hb : DW X C (.BoolOp .And (b :: rest) pos) mb) : DW X C (.BoolOp .And (a :: b :: rest) pos) (mAndT ma mb) := by
  refine ⟨fun hK => ?_⟩
  obtain ⟨ta, h1, s1⟩ := ha.run hK
  obtain ⟨tb, h2, s2⟩ := hb.run hK
  refine ⟨_, pw_and h1 h2, fun σ F H l env g Q R w => ?_⟩
  refine s1 σ F H l env g _ R (Wp.mono (Wp.bind.mp w) (fun c env1 g1 w F1 H1 l1 R1 x1 => ?_) fun _ _ _ _ w => w)
  cases c with
  | true => exact s2 σ F1 H1 l1 env1 g1 Q R1 (Wp.mono w (fun _ _ _ w => KT.up w x1) fun _ _ _ _ w => w)
  | false => exact w F1 H1 l1 R1 x1
theorem dw_or {a b : Expr} {rest : List Expr} {ma mb : M Bool} (ha : DT X C a ma) (hb : DW X C (.BoolOp .Or (b :: rest) pos) mb) : DW X C (.BoolOp .Or (a :: b :: rest) pos) (mOrT ma mb) := by
  refine ⟨fun hK => ?_⟩
  obtain ⟨ta, h1, s1⟩ := ha.run hK
  obtain ⟨tb, h2, s2⟩ := hb.run hK
  refine ⟨_, pw_or h1 h2, fun σ F H l env g Q R w => ?_⟩
  refine s1 σ F H l env g _ R (Wp.mono (Wp.bind.mp w) (fun c env1 g1 w F1 H1 l1 R1 x1 => ?_) fun _ _ _ _ w => w)
  cases c with
  | true => exact w F1 H1 l1 R1 x1
  | false => exact s2 σ F1 H1 l1 env1 g1 Q R1 (Wp.mono w (fun _ _ _ w => KT.up w x1) fun _ _ _ _ w => w)
theorem dt_not {a : Expr} {ma : M Bool} (ha : DT X C a ma) : DT X C (.UnaryOp .Not a pos) (mNotT ma) := by
  refine ⟨fun hK => ?_⟩
  obtain ⟨ta, h1, s1⟩ := ha.run hK
  refine ⟨_, pt_not h1, fun σ F H l env g Q R w => ?_⟩
  exact s1 σ F H l env g _ R (Wp.mono (Wp.bind.mp w) (fun c env1 g1 w F1 H1 l1 R1 x1 => w F1 H1 l1 R1 x1) fun _ _ _ _ w => w)
/-! .. as values -/
def mAndV (ma mb : M EV) : M EV := ma.bind fun a => match a with
  | .d (.bool true) => mb
  | .d (.bool false) => M.pure (.d (.bool false))
  | _ => M.bad
def mOrV (ma mb : M EV) : M EV := ma.bind fun a => match a with
  | .d (.bool true) => M.pure (.d (.bool true))
  | .d (.bool false) => mb
  | _ => M.bad
def mNotV (ma : M EV) : M EV := ma.bind fun a => match a with
  | .d (.bool b) => M.pure (.d (.bool (!b)))
  | _ => M.bad
theorem de_one {op : BoolOp} {a : Expr} {ma : M EV} (h : DE X C a ma) : DE X C (.BoolOp op [a] pos) ma := ⟨fun hK => let ⟨t, h, s⟩ := h.run hK; ⟨t, pe_one h, s⟩⟩
theorem de_and {a b : Expr} {rest : List Expr} {ma mb : M EV} (ha : DE X C a ma) (hb : DE X C (.BoolOp .And (b :: rest) pos) mb) : DE X C (.BoolOp .And (a :: b :: rest) pos) (mAndV ma mb) := by
  refine ⟨fun hK => ?_⟩
  obtain ⟨ta, h1, s1⟩ := ha.run hK
  obtain ⟨tb, h2, s2⟩ := hb.run hK
  refine ⟨_, pe_and h1 h2, fun σ F H l env g Q R w => ?_⟩
  refine s1 σ F H l env g _ R (Wp.mono (Wp.bind.mp w) (fun c env1 g1 w v F1 H1 l1 R1 x1 r1 f1 => ?_) fun _ _ _ _ w => w)
  cases c with
  | d y =>
    cases y with
    | bool b =>
      cases b with
      | true => exact ⟨true, r1.isb, s2 σ F1 H1 l1 env1 g1 Q R1 (Wp.mono w (fun _ _ _ w => KE.up w x1) fun _ _ _ _ w => w)⟩
      | false => exact ⟨false, r1.isb, w _ F1 H1 l1 R1 x1 RepEV.ofb trivial⟩
    | _ => exact w.elim
  | _ => exact w.elim
theorem de_or {a b : Expr} {rest : List Expr} {ma mb : M EV} (ha : DE X C a ma) (hb : DE X C (.BoolOp .Or (b :: rest) pos) mb) : DE X C (.BoolOp .Or (a :: b :: rest) pos) (mOrV ma mb) := by
  refine ⟨fun hK => ?_⟩
  obtain ⟨ta, h1, s1⟩ := ha.run hK
  obtain ⟨tb, h2, s2⟩ := hb.run hK
  refine ⟨_, pe_or h1 h2, fun σ F H l env g Q R w => ?_⟩
  refine s1 σ F H l env g _ R (Wp.mono (Wp.bind.mp w) (fun c env1 g1 w v F1 H1 l1 R1 x1 r1 f1 => ?_) fun _ _ _ _ w => w)
  cases c with
  | d y =>
    cases y with
    | bool b =>
      cases b with
      | false => exact ⟨false, r1.isb, s2 σ F1 H1 l1 env1 g1 Q R1 (Wp.mono w (fun _ _ _ w => KE.up w x1) fun _ _ _ _ w => w)⟩
      | true => exact ⟨true, r1.isb, w _ F1 H1 l1 R1 x1 RepEV.ofb trivial⟩
    | _ => exact w.elim
  | _ => exact w.elim
theorem de_not {a : Expr} {ma : M EV} (ha : DE X C a ma) : DE X C (.UnaryOp .Not a pos) (mNotV ma) := by
  refine ⟨fun hK => ?_⟩
  obtain ⟨ta, h1, s1⟩ := ha.run hK
  refine ⟨_, pe_not h1, fun σ F H l env g Q R w => ?_⟩
  refine s1 σ F H l env g _ R (Wp.mono (Wp.bind.mp w) (fun c env1 g1 w v F1 H1 l1 R1 x1 r1 f1 => ?_) fun _ _ _ _ w => w)
  cases c with
  | d y =>
    cases y with
    | bool b => exact ⟨b, r1.isb, w _ F1 H1 l1 R1 x1 RepEV.ofb trivial⟩
    | _ => exact w.elim
  | _ => exact w.elim
def mIf (mt : M Bool) (ma mb : M EV) : M EV := mt.bind fun b => if b then ma else mb
theorem de_if {c a b : Expr} {mt : M Bool} {ma mb : M EV} (hc : DT X C c mt) (ha : DE X C a ma) (hb : DE X C b mb) : DE X C (.IfExp c a b pos) (mIf mt ma mb) := by
  refine ⟨fun hK => ?_⟩
  obtain ⟨tc, h0, s0⟩ := hc.run hK
  obtain ⟨ta, h1, s1⟩ := ha.run hK
  obtain ⟨tb, h2, s2⟩ := hb.run hK
  refine ⟨_, pe_ifExp h0 h1 h2, fun σ F H l env g Q R w => ?_⟩
  refine s0 σ F H l env g _ R (Wp.mono (Wp.bind.mp w) (fun c env1 g1 w F1 H1 l1 R1 x1 => ?_) fun _ _ _ _ w => w)
  cases c with
  | true => exact s1 σ F1 H1 l1 env1 g1 Q R1 (Wp.mono w (fun _ _ _ w => KE.up w x1) fun _ _ _ _ w => w)
  | false => exact s2 σ F1 H1 l1 env1 g1 Q R1 (Wp.mono w (fun _ _ _ w => KE.up w x1) fun _ _ _ _ w => w)
/-! ### argument lists -/
def mNil : M (List EV) := M.pure []
def mCons (ma : M EV) (mr : M (List EV)) : M (List EV) := ma.bind fun a => mr.bind fun r => M.pure (a :: r)
/-- handed on: frozen data, the source, the script -/
def mArg (ma : M EV) : M EV := ma.bind fun a => match a with
  | .d x => M.pure (.d x)
  | .fr x => M.pure (.d x)
  | .src b => M.pure (.src b)
  | .scr ns => M.pure (.scr ns)
  | .bo _ => M.bad
theorem simArg {t : TE} {m : M EV} (s : SimE C t m) : SimE C t (mArg m) := by
  refine fun σ F H l env g Q R w => s σ F H l env g Q R (Wp.mono (Wp.bind.mp w) (fun ev env' g' w v F' H' l' R' x r f => ?_) fun _ _ _ _ w => w)
  cases ev with
  | d y => exact w v F' H' l' R' x r trivial
  | fr y =>
    obtain ⟨a, rfl, h2, h3, h4, h5, h6⟩ := r
    obtain ⟨u, hu, R2, rp⟩ := R'.frz h2 h3 h4 h5 h6
    exact w _ _ H' l' R2 (x.frz h3 (f a rfl)) rp trivial
  | src b => exact w v F' H' l' R' x r trivial
  | scr ns => exact w v F' H' l' R' x r trivial
  | bo _ => exact w.elim
theorem de_arg {m : M EV} (h : DE X C e m) : DE X C e (mArg m) := ⟨fun hK => let ⟨t, ht, s⟩ := h.run hK; ⟨t, ht, simArg s⟩⟩
theorem da_nil : DA X C [] mNil := ⟨fun _ => ⟨_, pa_nil, fun σ F H l env g Q R w => w [] F H l R .refl .nil⟩⟩
theorem da_cons {a : Expr} {ma : M EV} {mr : M (List EV)} (ha : DE X C a ma) (hr : DA X C es mr) (hs : starEach (a :: es) X.env = (false, eval a X.env) :: starEach es X.env := by rfl) : DA X C (a :: es) (mCons ma mr) := by
  refine ⟨fun hK => ?_⟩
  obtain ⟨ta, h1, s1⟩ := ha.run hK
  obtain ⟨tr, h2, s2⟩ := hr.run hK
  refine ⟨_, pa_cons h1 h2 hs, fun σ F H l env g Q R w => ?_⟩
  refine s1 σ F H l env g _ R (Wp.mono (Wp.bind.mp w) (fun a env1 g1 w v F1 H1 l1 R1 x1 r1 f1 => ?_) fun _ _ _ _ w => w)
  refine s2 σ F1 H1 l1 env1 g1 _ R1 (Wp.mono (Wp.bind.mp w) (fun as env2 g2 w vs F2 H2 l2 R2 x2 r2 => ?_) fun _ _ _ _ w => w)
  exact w (v :: vs) F2 H2 l2 R2 (x1.trans (C := C) x2) (.cons ⟨r1.up x2, f1⟩ (Paired.imp (fun _ _ q => ⟨q.1, q.2.dn x1.hd⟩) r2))
/-- all frozen: the data of a display -/
def dataOf : List EV → Option (List PyData)
  | [] => some []
  | .d x :: r => (dataOf r).map (x :: ·)
  | _ :: _ => none
theorem dataOf_rep {σ : L2.St} {F H H0 : Hp} {l : Loc} {env : Env'} : ∀ {evs : List EV} {vs : List V} {ds : List PyData}, Paired (fun v ev => RepEV C σ F H l env v ev ∧ FreshAt H0 v ev) vs evs → dataOf evs = some ds → RepL C.K F vs ds
  | [], _, _, .nil, h => by cases h; exact repL_nil.mpr rfl
  | ev :: evs, _, ds, .cons r t, h => by
    cases ev with
    | d x =>
      cases q : dataOf evs with
      | none => simp [dataOf, q] at h
      | some es =>
        simp [dataOf, q] at h
        subst h
        exact repL_cons.mpr ⟨_, _, rfl, r.1, dataOf_rep t q⟩
    | _ => simp [dataOf] at h
def szd (ds : List PyData) : Option (List PyData) := if ds.length ≤ sizeLine then some ds else none
theorem szd_inv {ds es : List PyData} (h : szd ds = some es) : ds.length ≤ sizeLine ∧ ds = es := by
  unfold szd at h
  by_cases c : ds.length ≤ sizeLine
  · rw [if_pos c] at h; exact ⟨c, Option.some.inj h⟩
  · rw [if_neg c] at h; cases h
def mSized (f : List PyData → RV) : Option (List PyData) → M EV
  | some ds => M.opt ((szd ds).map fun es => (f es).ev)
  | none => M.bad
theorem mSized_wp {f : List PyData → RV} {o : Option (List PyData)} {e : Env'} {g : G} {K : EV → Env' → G → Prop} {E : Str → PyData → Env' → G → Prop} (h : Wp (mSized f o e g) K E) : ∃ ds, o = some ds ∧ ds.length ≤ sizeLine ∧ K (f ds).ev e g := by
  cases o with
  | none => exact h.elim
  | some ds =>
    obtain ⟨ev, q, w⟩ := Wp.opt h
    obtain ⟨es, q1, rfl⟩ := Option.map_eq_some_iff.mp q
    obtain ⟨c, rfl⟩ := szd_inv q1
    exact ⟨ds, rfl, c, w⟩
def mDisp (f : List PyData → RV) (ma : M (List EV)) : M EV := ma.bind fun evs => mSized f (dataOf evs)
theorem de_tup {x1 : Nat} {m : M (List EV)} (h : DA X C es m) : DE X C (.Tuple es x1 pos) (mDisp (fun ds => .d (.tuple ds)) m) := by
  refine ⟨fun hK => ?_⟩
  obtain ⟨t, ht, s⟩ := h.run hK
  refine ⟨_, pe_tup ht, fun σ F H l env g Q R w => ?_⟩
  refine s σ F H l env g _ R (Wp.mono (Wp.bind.mp w) (fun evs env1 g1 w vs F1 H1 l1 R1 x1 r1 => ?_) fun _ _ _ _ w => w)
  obtain ⟨ds, hd, hz, w⟩ := mSized_wp w
  have rl := dataOf_rep r1 hd
  exact ⟨by rw [rl.length]; exact hz, fun p hp => (KE.res R1 (KE.up w x1)).tup R1.sub hp rl⟩
theorem de_lst {m : M (List EV)} (h : DA X C es m) : DE X C (.List es pos) (mDisp (fun ds => .fr (.list ds)) m) := by
  refine ⟨fun hK => ?_⟩
  obtain ⟨t, ht, s⟩ := h.run hK
  refine ⟨_, pe_lst ht, fun σ F H l env g Q R w => ?_⟩
  refine s σ F H l env g _ R (Wp.mono (Wp.bind.mp w) (fun evs env1 g1 w vs F1 H1 l1 R1 x1 r1 => ?_) fun _ _ _ _ w => w)
  obtain ⟨ds, hd, hz, w⟩ := mSized_wp w
  have rl := dataOf_rep r1 hd
  exact ⟨by rw [rl.length]; exact hz, fun p hp => (KE.res R1 (KE.up w x1)).lst R1.sub hp rl⟩
/-! ### built-ins by name -/
def lookAll (env : Env') : List EV → Option (List PyData)
  | [] => some []
  | ev :: r => match look env ev with
    | some x => (lookAll env r).map (x :: ·)
    | none => none
theorem lookAll_bor {σ : L2.St} {F H H0 : Hp} {l : Loc} {env : Env'} {g : G} (R : Rel C σ F H l env g) : ∀ {evs : List EV} {vs : List V} {ds : List PyData}, Paired (fun v ev => RepEV C σ F H l env v ev ∧ FreshAt H0 v ev) vs evs → lookAll env evs = some ds → Paired (Bor C.K F H) vs ds
  | [], _, _, .nil, h => by cases h; exact .nil
  | ev :: evs, _, ds, .cons r t, h => by
    unfold lookAll at h
    split at h
    · rename_i x e
      cases q : lookAll env evs with
      | none => simp [q] at h
      | some es =>
        simp [q] at h
        subst h
        exact .cons (r.1.look R e) (lookAll_bor R t q)
    · cases h
def mCallB (gop : List PyData → Option RV) (ma : M (List EV)) : M EV := ma.bind fun evs => fun env g =>
  match lookAll env evs with
  | some xs => M.opt ((gop xs).map RV.ev) env g
  | none => .bad
theorem simCallB {r : List V → Hp → VK → Prop} {gop : List PyData → Option RV} {t : TA} {m : M (List EV)} (s : SimA C t m)
    (hr : ∀ (F H : Hp) (vs : List V) (xs : List PyData) (Q : VK) (ev : RV), Same F H → Paired (Bor C.K F H) vs xs → gop xs = some ev → ResK C.K F H Q ev → r vs H Q) : SimE C (tCB r t) (mCallB gop m) := by
  intro σ F H l env g Q R w
  refine s σ F H l env g _ R (Wp.mono (Wp.bind.mp w) (fun evs env1 g1 w vs F1 H1 l1 R1 x1 r1 => ?_) fun _ _ _ _ w => w)
  split at w
  · rename_i xs e
    cases hg : gop xs with
    | none => rw [hg] at w; exact w.elim
    | some ev =>
      rw [hg] at w
      exact hr F1 H1 vs xs Q ev R1.sub (lookAll_bor R1 r1 e) hg (KE.res R1 (KE.up w x1))
  · exact w.elim
theorem de_callB {x : Str} {id : String} {p : Pos} {a : Expr} {gop : List PyData → Option RV} {m : M (List EV)} (hc : CallD X (.builtin id) gop) (hg : Gl X x) (hm : X.mg x = none) (hv : bootBuiltins x = some (.builtin id)) (ha : DA X C (a :: es) m)
    (hn : x ≠ "__name__" := by decide) (hdb : (x == ("__debug__" : Str)) = false := by decide) (he : starEach (a :: es) X.env = (false, eval a X.env) :: starEach es X.env := by rfl) (hpl : (backTo pos (starEach es X.env)).any (·.1) = false := by rfl) :
    DE X C (.Call (.Name x p) (a :: es) [] pos) (mCallB gop m) := by
  refine ⟨fun hK => ?_⟩
  obtain ⟨t, ht, s⟩ := ha.run hK
  obtain ⟨r, hr, hs⟩ := hc
  exact ⟨_, pe_callB hr hg hm hv ht hn hdb he hpl, simCallB s (by rw [hK]; exact hs)⟩
theorem de_callTy {x : Str} {T : String} {p : Pos} {a : Expr} {gop : List PyData → Option RV} {m : M (List EV)} (hc : CallD X (.type T) gop) (hg : Gl X x) (hm : X.mg x = none) (hv : bootBuiltins x = some (.type T)) (ha : DA X C (a :: es) m)
    (hn : x ≠ "__name__" := by decide) (hdb : (x == ("__debug__" : Str)) = false := by decide) (he : starEach (a :: es) X.env = (false, eval a X.env) :: starEach es X.env := by rfl) (hpl : (backTo pos (starEach es X.env)).any (·.1) = false := by rfl) :
    DE X C (.Call (.Name x p) (a :: es) [] pos) (mCallB gop m) := by
  refine ⟨fun hK => ?_⟩
  obtain ⟨t, ht, s⟩ := ha.run hK
  obtain ⟨r, hr, hs⟩ := hc
  exact ⟨_, pe_callTy hr hg hm hv ht hn hdb he hpl, simCallB s (by rw [hK]; exact hs)⟩
end
end DL
namespace DL
open PySem L2
/-! ### enumerate of anything that begins -/
section
theorem enumNew1 {v : Value} {o : Obj} {P : Heap → Prop} (B : Begins v o P) :
    Meets (Builtin.«enumerate.__new__» ⟨[.type "enumerate", v], []⟩) (fun _ R s => P s.heap ∧
      R (.ok (.ret (.ref (s.heap.push o).objs.size))) { s with heap := (s.heap.push o).push { cls := .type "enumerate", data := .fields #[.none, .bool false, .ref s.heap.objs.size, rawInt 0, .none, .none] } }) := by
  refine .of_wp ?_
  intro prog w A R s h
  obtain ⟨hp, g, d, tk, os⟩ := s
  obtain ⟨h1, h⟩ := h
  have isE := sub_enumerate
  have it1 : ∀ {A' : Around} {E' : Value → Shared → Prop} {Q' : Value → Shared → Prop}, Q' (.ref hp.objs.size) ⟨hp.push o, g, d, tk, os⟩ → wpAny (model prog w) A' (pyIter v) Q' E' ⟨hp, g, d, tk, os⟩ := by
    intro A' E' Q' q
    exact B.iter prog w _ _ ⟨hp, g, d, tk, os⟩ _ h1 q
  wp_walk using it1
  refine wpAny_stack_any ?_
  intro st
  refine wpAny_pure ?_
  split
  · rename_i c _ _ _ _ _
    cases (c == Value.type "enumerate") <;> (wp_walk using it1; exact ⟨_, rfl, h⟩)
  · wp_walk using it1
    exact ⟨_, rfl, h⟩
theorem enumCall1 {prog : Program} {w : World} {A : Around} {E : Value → Shared → Prop} {s : Shared} {v : Value} {o : Obj} {P : Heap → Prop} {Q : Value → Shared → Prop} (B : Begins v o P) (h1 : P s.heap)
    (h : ∀ h', IsEnum h' (s.heap.objs.size + 1) s.heap.objs.size 0 .none → h'.get? s.heap.objs.size = some o → (∀ b u, s.heap.get? b = some u → h'.get? b = some u) → Q (.ref (s.heap.objs.size + 1)) { s with heap := h' }) :
    wpAny (model prog w) A (call (.type "enumerate") [v]) Q E s := by
  refine callType_new F.called_enumerate (by decide) (F.typeCall_enumerate_1 _) (F.newCall_enumerate_1 _) (fun obj => F.args_object_init_2 obj _) F.entry_enumerate_new (enumNew1 B) ⟨h1, ?_⟩
  have sz : (s.heap.push o).objs.size = s.heap.objs.size + 1 := by rw [Heap.size_push]
  show _ ∧ _
  rw [sz]
  have he : IsEnum ((s.heap.push o).push { cls := .type "enumerate", data := .fields #[.none, .bool false, .ref s.heap.objs.size, rawInt 0, .none, .none] }) (s.heap.objs.size + 1) s.heap.objs.size 0 .none := by
    have z := Heap.get?_push_size (s.heap.push o) (o := { cls := .type "enumerate", data := .fields #[.none, .bool false, .ref s.heap.objs.size, rawInt 0, .none, .none] }) rfl
    rw [sz] at z
    exact z
  exact ⟨⟨_, he, rfl⟩, h _ he (Heap.get?_push_of_some _ (Heap.get?_push_size _ B.free)) fun b u x => Heap.get?_push_of_some _ (Heap.get?_push_of_some _ x)⟩
/-- the tuple at a, each item in a new pair with its number -/
def IteT (K : PySem.W.Frag) (a : Addr) : It where
  go := fun i H => ∃ (xs : List V) (x : V), SqT K H a xs ∧ xs[i]? = some x
  yld := fun i H v H' => ∃ T x, v = .ref T ∧ H T = none ∧ H' = upd H T (.tup [.int (i : Nat), x]) ∧ ∀ xs, SqT K H a xs → xs[i]? = some x
  stop := fun i H => ∃ xs : List V, SqT K H a xs ∧ i = xs.length
theorem turnEnumT {P : Program} {w : World} {K : PySem.W.Frag} {elts : List Expr} {kk : Nat} {tpos : Pos} (a e it : Addr) :
    Turn P w K (.Tuple elts kk tpos) (IteT K a) [e, it] e (fun i h => (∃ old, IsEnum h e it (0 + ((i : Nat) : Int)) old) ∧ h.IsTupleIter it a i ∧ e ≠ it) where
  mem := by simp
  obj := fun i h st b hb => by
    obtain ⟨⟨old, he⟩, ⟨o, ho, hc, hd⟩, _⟩ := st
    rcases (show b = e ∨ b = it by simpa using hb) with z | z
    · exact z ▸ ⟨_, he, fun v q => nomatch q⟩
    · exact z ▸ ⟨o, ho, fun v q => by rw [hd] at q; cases q⟩
  keep := fun i h h' st k => by
    obtain ⟨⟨old, he⟩, hi, hne⟩ := st
    exact ⟨⟨old, k e (by simp) _ he⟩, hi.at fun o q => k it (by simp) o q, hne⟩
  item := by
    intro X hP hw hK hc i pins s σ H E I hf st hg
    subst hP hw hK
    obtain ⟨⟨old, he⟩, hit, hne⟩ := st
    obtain ⟨xs, x, hq, hx⟩ := hg
    obtain ⟨its, rv, p, hz⟩ := I.tuple hq
    obtain ⟨u, hu, ru⟩ := rv.get hx
    have hel : e < s.heap.objs.size := Heap.lt_size he
    have hil : it < s.heap.objs.size := by obtain ⟨_, q, _⟩ := hit; exact Heap.lt_size q
    have pa : s.heap.get? a ≠ none := by obtain ⟨o, q, _⟩ := p; rw [q]; nofun
    have hat : a ≠ it := fun z => by
      obtain ⟨o, q, c, _⟩ := p
      obtain ⟨o', q', c', _⟩ := hit
      rw [z, q'] at q
      cases q
      rw [c'] at c
      exact absurd c (by decide)
    have hae : a ≠ e := fun z => by
      obtain ⟨o, q, c, _⟩ := p
      have h0 := he
      unfold IsEnum at h0
      rw [z, h0] at q
      cases q
      exact absurd (show Value.type "enumerate" = Value.type "tuple" from c) (by decide)
    have D := Draws.tuple (prog := X.prog) (w := X.w) (A := X.A.in1) (I.ok.hd hc) it a hat its.toArray
    have W := GoesN.enumFrom (elts := elts) (x1 := kk) (pos := tpos) 0 D e hne (by simp [hne, hae.symm]) (by simp)
    have hi : i < its.toArray.size := by
      obtain ⟨h1, _⟩ := List.getElem?_eq_some_iff.mp hu
      simpa using h1
    refine thn (W.goes i s (fun v s2 => ∃ y H', Inv X pins σ H' s2 ∧ RelV y v ∧ (IteT X.K a).yld i H y H' ∧ ((∃ old, IsEnum s2.heap e it (0 + ((i + 1 : Nat) : Int)) old) ∧ s2.heap.IsTupleIter it a (i + 1) ∧ e ≠ it) ∧ ∀ b ∈ [e, it], H' b = none) E hi ⟨⟨old, he⟩, hit, p⟩ ?_) fun r s1 ⟨v, hr, q⟩ => ⟨v, hr, q⟩
    intro v h' tk hY st' hk ht
    obtain ⟨T, t, y, rfl, hT, hy, hTT⟩ := hY
    obtain ⟨st1, st2, st3⟩ := st'
    have ey : y = u := by
      have z : its.toArray[i]? = some y := hy
      rw [List.getElem?_toArray, hu] at z
      exact (Option.some.inj z).symm
    subst ey
    have new : ObjOk X.prog X.w (upd H T (.tup [.int (i : Nat), x])) h' T (.tup [.int (i : Nat), x]) :=
      ⟨by show 2 ≤ sizeLine; decide, [.int (0 + (i : Int)) t, y], .cons ⟨t, by rw [Int.zero_add]⟩ (.cons ru .nil), hTT⟩
    refine ⟨.ref T, _, I.turnedNew (ch := [e, it]) (fun b ob hb q => hk b ob (by simpa using hb) q) hf hT new, rfl, ⟨T, x, rfl, I.hok.fresh hT, rfl, fun ys hy => by rw [I.tuple_inj hy hq]; exact hx⟩, ⟨st1, st2, hne⟩, fun b hb => ?_⟩
    have hb' : b < s.heap.objs.size := by
      rcases (show b = e ∨ b = it by simpa using hb) with z | z <;> (rw [z]; assumption)
    rw [upd_ne (Nat.ne_of_lt (Nat.lt_of_lt_of_le hb' hT))]
    exact (hf b hb).1
  done := by
    intro X hP hw hK hc i pins s σ H E I hf st hg
    subst hP hw hK
    obtain ⟨⟨old, he⟩, hit, hne⟩ := st
    obtain ⟨xs, hq, hx⟩ := hg
    obtain ⟨its, rv, p, hz⟩ := I.tuple hq
    have hat : a ≠ it := fun z => by
      obtain ⟨o, q, c, _⟩ := p
      obtain ⟨o', q', c', _⟩ := hit
      rw [z, q'] at q
      cases q
      rw [c'] at c
      exact absurd c (by decide)
    have hae : a ≠ e := fun z => by
      obtain ⟨o, q, c, _⟩ := p
      have h0 := he
      unfold IsEnum at h0
      rw [z, h0] at q
      cases q
      exact absurd (show Value.type "enumerate" = Value.type "tuple" from c) (by decide)
    have D := Draws.tuple (prog := X.prog) (w := X.w) (A := X.A.in1) (I.ok.hd hc) it a hat its.toArray
    have W := GoesN.enumFrom (elts := elts) (x1 := kk) (pos := tpos) 0 D e hne (by simp [hne, hae.symm]) (by simp)
    have hi : i = its.toArray.size := by
      rw [hx, rv.length]
      simp
    subst hi
    refine W.stops s (fun s1 => Inv X pins σ H s1) E ⟨⟨old, he⟩, hit, p⟩ ?_
    intro h' tk hk ht
    exact I.turnedL (ch := [e, it]) (fun b o hb q => hk b o (by simpa using hb) q) hf
  self := fun A i s Q E st h => by
    obtain ⟨⟨_, he⟩, _⟩ := st
    exact wpAny_pyIter_enum he h
end
end DL
namespace DL
open PySem L2
/-! ### targets -/
inductive Pat where
  | nm (i : Nat)
  | tp (ps : List Pat)
mutual
def asg : Pat → PyData → Env' → Option Env'
  | .nm i, d, e => if i < e.length then some (e.set i (.d d)) else none
  | .tp ps, d, e => match d with
    | .tuple ds => asgL ps ds e
    | _ => none
def asgL : List Pat → List PyData → Env' → Option Env'
  | [], [], e => some e
  | p :: ps, d :: ds, e => match asg p d e with
    | some e => asgL ps ds e
    | none => none
  | _, _, _ => none
end
theorem asgL_length : ∀ {ps : List Pat} {ds : List PyData} {e e' : Env'}, asgL ps ds e = some e' → ds.length = ps.length
  | [], [], _, _, _ => rfl
  | [], _ :: _, _, _, h => by simp [asgL] at h
  | _ :: _, [], _, _, h => by simp [asgL] at h
  | p :: ps, d :: ds, e, e', h => by
    cases z : asg p d e with
    | none => simp [asgL, z] at h
    | some e1 =>
      simp [asgL, z] at h
      simp [asgL_length h]
mutual
def Pat.idx : Pat → List Nat
  | .nm i => [i]
  | .tp ps => idxL ps
def idxL : List Pat → List Nat
  | [] => []
  | p :: ps => p.idx ++ idxL ps
end
/-- the slots but those at is are as they were -/
def Off (is : List Nat) (σ σ' : L2.St) : Prop := σ'.length = σ.length ∧ ∀ j, j ∉ is → σ'[j]? = σ[j]?
theorem Off.trans {is js : List Nat} {σ σ1 σ2 : L2.St} (a : Off is σ σ1) (b : Off js σ1 σ2) : Off (is ++ js) σ σ2 :=
  ⟨b.1.trans a.1, fun j h => by
    rw [List.mem_append, not_or] at h
    rw [b.2 j h.2, a.2 j h.1]⟩
theorem Rel.setd {C : DCx} {σ : L2.St} {F H : Hp} {l : Loc} {env : Env'} {g : G} {v : V} {d : PyData} (R : Rel C σ F H l env g) (i : Nat) (r : Rep C.K F v d) : Rel C (σ.set i (some v)) F H l (env.set i (.d d)) g where
  sub := R.sub
  len := by rw [List.length_set, List.length_set]; exact R.len
  dat := fun j x e => by
    rcases get_set_cases e with ⟨z, w⟩ | ⟨z, q⟩
    · subst z
      cases w
      have hl : i < σ.length := by
        rw [R.len]
        obtain ⟨h1, _⟩ := List.getElem?_eq_some_iff.mp e
        simpa using h1
      exact ⟨v, List.getElem?_set_self hl, r⟩
    · rw [get_set_ne z]; exact R.dat j x q
  own := fun j x e => by
    rcases get_set_cases e with ⟨z, w⟩ | ⟨z, q⟩
    · cases w
    · rw [get_set_ne z]; exact R.own j x q
  inj := fun j k x y a e1 e2 h1 h2 => by
    rcases get_set_cases e1 with ⟨z, w⟩ | ⟨z, q⟩
    · cases w
    · rcases get_set_cases e2 with ⟨z2, w⟩ | ⟨z2, q2⟩
      · cases w
      · rw [get_set_ne z] at h1
        rw [get_set_ne z2] at h2
        exact R.inj j k x y a q q2 h1 h2
  iscr := fun j ns e => by
    rcases get_set_cases e with ⟨z, w⟩ | ⟨z, q⟩
    · cases w
    · rw [get_set_ne z]; exact R.iscr j ns q
  isrc := fun j b e => by
    rcases get_set_cases e with ⟨z, w⟩ | ⟨z, q⟩
    · cases w
    · rw [get_set_ne z]; exact R.isrc j b q
  src := R.src
  old := R.old
  oldd := R.oldd
  f0 := R.f0
  fo := R.fo
  lo := R.lo
  l0 := R.l0
theorem OwnAt.setd {σ : L2.St} {env : Env'} {i : Nat} {d : PyData} {v : V} {a : Addr} (h : OwnAt (σ.set i (some v)) (env.set i (.d d)) a) : OwnAt σ env a := by
  obtain ⟨j, x, e, q⟩ := h
  rcases get_set_cases e with ⟨z, w⟩ | ⟨z, e⟩
  · cases w
  · rw [get_set_ne z] at q
    exact ⟨j, x, e, q⟩
def SimG (C : DCx) (g : TG) (p : Pat) : Prop := ∀ (σ : L2.St) (F H : Hp) (l : Loc) (env env' : Env') (gs : G) (v : V) (d : PyData) (Q : L2.St → Hp → Prop), Rel C σ F H l env gs → Rep C.K F v d → asg p d env = some env' →
  (∀ σ', Rel C σ' F H l env' gs → Off p.idx σ σ' → (∀ a, OwnAt σ' env' a → OwnAt σ env a) → Q σ' H) → g v σ H Q
def SimGs (C : DCx) (g : TGs) (ps : List Pat) : Prop := ∀ (σ : L2.St) (F H : Hp) (l : Loc) (env env' : Env') (gs : G) (vs : List V) (ds : List PyData) (Q : L2.St → Hp → Prop), Rel C σ F H l env gs → RepL C.K F vs ds → asgL ps ds env = some env' →
  (∀ σ', Rel C σ' F H l env' gs → Off (idxL ps) σ σ' → (∀ a, OwnAt σ' env' a → OwnAt σ env a) → Q σ' H) → g vs σ H Q
structure DG (X : Cx) (C : DCx) (e : Expr) (p : Pat) : Prop where
  run : C.K = X.K → ∃ g, PG X e g ∧ SimG C g p
structure DGs (X : Cx) (C : DCx) (es : List Expr) (ps : List Pat) : Prop where
  run : C.K = X.K → ∃ g, PGs X es g ∧ SimGs C g ps
section
variable {X : Cx} {C : DCx} {pos : Pos}
theorem dg_of {e : Expr} {i : Nat} (h : PG X e (gName i)) : DG X C e (.nm i) := ⟨fun _ => ⟨_, h, fun σ F H l env env' gs v d Q R r e q => by
  unfold asg at e
  split at e
  · cases e
    exact q _ (R.setd i r) ⟨by simp, fun j hj => get_set_ne (fun z => hj (by simp [Pat.idx, z]))⟩ fun a h => h.setd
  · cases e⟩⟩
theorem dgs_nil : DGs X C [] [] := ⟨fun _ => ⟨_, pgs_nil, fun σ F H l env env' gs vs ds Q R r e q => by
  cases ds with
  | nil =>
    cases e
    exact ⟨repL_nil.mp r, q σ R ⟨rfl, fun _ _ => rfl⟩ fun _ h => h⟩
  | cons _ _ => cases e⟩⟩
theorem dgs_cons {e : Expr} {es : List Expr} {p : Pat} {ps : List Pat} (h : DG X C e p) (hs : DGs X C es ps) (ha : (assignEach (e :: es) X.env).map (·.2) = assign e X.env :: (assignEach es X.env).map (·.2) := by rfl) : DGs X C (e :: es) (p :: ps) := by
  refine ⟨fun hK => ?_⟩
  obtain ⟨g, h1, s1⟩ := h.run hK
  obtain ⟨gs, h2, s2⟩ := hs.run hK
  refine ⟨_, pgs_cons h1 h2 ha, fun σ F H l env env' G vs ds Q R r e q => ?_⟩
  cases ds with
  | nil => cases e
  | cons d ds =>
    obtain ⟨v, w, rfl, r1, r2⟩ := repL_cons.mp r
    refine ⟨v, w, rfl, ?_⟩
    cases z : asg p d env with
    | none => simp [asgL, z] at e
    | some env1 =>
      simp [asgL, z] at e
      refine s1 σ F H l env env1 G v d _ R r1 z fun σ1 R1 o1 w1 => ?_
      refine s2 σ1 F H l env1 env' G w ds Q R1 r2 e fun σ2 R2 o2 w2 => ?_
      exact q σ2 R2 (o1.trans o2) fun a h => w1 a (w2 a h)
theorem dg_tup {es : List Expr} {k : Nat} {ps : List Pat} (hc : X.calm = true) (h : DGs X C es ps) (hn : (assignEach es X.env).length = ps.length := by rfl) (hst : (assignEach es X.env).findIdx? (·.1) = none := by rfl) : DG X C (.Tuple es k pos) (.tp ps) := by
  refine ⟨fun hK => ?_⟩
  obtain ⟨g, h1, s1⟩ := h.run hK
  refine ⟨_, pg_tup hc h1 hn hst, fun σ F H l env env' G v d Q R r e q => ?_⟩
  unfold asg at e
  split at e
  · rename_i ds
    obtain ⟨a, vs, rfl, t, r⟩ := rep_tup.mp r
    refine ⟨a, vs, rfl, by rw [← hK]; exact SqT.up R.sub t, ?_, s1 σ F H l env env' G vs ds Q R r e fun σ' R' o w => q σ' R' o w⟩
    rw [r.length]
    exact asgL_length e
  · cases e
end
/-! ### what is walked -/
structure Walks (K : PySem.W.Frag) (J : It) (xs : List PyData) (F : Hp) : Prop where
  go : ∀ F' H' i, Same F F' → Same F' H' → i < xs.length → J.go i H'
  yl : ∀ F' H' i v H2, Same F F' → Same F' H' → i < xs.length → J.yld i H' v H2 → ∃ F2 d, xs[i]? = some d ∧ New K F' H' F2 H2 v (.d d)
  st : ∀ F' H', Same F F' → Same F' H' → J.stop xs.length H'
theorem New.same {K : PySem.W.Frag} {F H : Hp} {v : V} {d : PyData} (s : Same F H) (r : Rep K F v d) : New K F H F H v (.d d) := ⟨.refl _, .refl _, s, fun _ e => .inl e, r⟩
theorem New.tup {K : PySem.W.Frag} {F H : Hp} {p : Addr} {vs : List V} {ds : List PyData} (s : Same F H) (n : H p = none) (r : RepL K F vs ds) : New K F H (upd F p (.tup vs)) (upd H p (.tup vs)) (.ref p) (.d (.tuple ds)) := by
  have nf := none_sub s n
  refine ⟨Same.upd nf, Same.upd n, fun b o e => ?_, fun a e => ?_, ?_⟩
  · by_cases hb : b = p
    · subst hb; rw [upd_same] at e ⊢; exact e
    · rw [upd_ne hb] at e ⊢; exact s _ _ e
  · by_cases hb : a = p
    · subst hb; exact .inr n
    · rw [upd_ne hb] at e; exact .inl e
  · exact rep_tup.mpr ⟨p, vs, rfl, SqT.of upd_same, RepL.up (Same.upd nf) _ _ r⟩
theorem walks_list {K : PySem.W.Frag} {F : Hp} {a : Addr} {vs : List V} {ds : List PyData} (h : F a = some (.lst vs)) (r : RepL K F vs ds) : Walks K (Itl K a) ds F where
  go := fun F' H' i s1 s2 hi => by
    rw [← r.length] at hi
    exact ⟨vs, vs[i], SqL.of (s2 _ _ (s1 _ _ h)), by simp [hi]⟩
  yl := fun F' H' i v H2 s1 s2 hi y => by
    obtain ⟨rfl, y⟩ := y
    obtain ⟨d, hd, rd⟩ := r.get (y vs (SqL.of (s2 _ _ (s1 _ _ h))))
    exact ⟨F', d, hd, New.same s2 (Rep.up s1 _ _ rd)⟩
  st := fun F' H' s1 s2 => ⟨vs, SqL.of (s2 _ _ (s1 _ _ h)), Nat.le_of_eq r.length⟩
theorem walks_tup {K : PySem.W.Frag} {F : Hp} {a : Addr} {vs : List V} {ds : List PyData} (h : SqT K F a vs) (r : RepL K F vs ds) : Walks K (Itt K a) ds F where
  go := fun F' H' i s1 s2 hi => by
    rw [← r.length] at hi
    exact ⟨vs, vs[i], SqT.up s2 (SqT.up s1 h), by simp [hi]⟩
  yl := fun F' H' i v H2 s1 s2 hi y => by
    obtain ⟨rfl, y⟩ := y
    obtain ⟨d, hd, rd⟩ := r.get (y vs (SqT.up s2 (SqT.up s1 h)))
    exact ⟨F', d, hd, New.same s2 (Rep.up s1 _ _ rd)⟩
  st := fun F' H' s1 s2 => ⟨vs, SqT.up s2 (SqT.up s1 h), Nat.le_of_eq r.length⟩
def signs (z : Str) : List PyData := z.cps.toList.map fun c => .str ⟨#[c]⟩
theorem walks_str {K : PySem.W.Frag} {F : Hp} {z : Str} : Walks K (Its z) (signs z) F where
  go := fun F' H' i s1 s2 hi => by
    have hi : i < z.cps.size := by simpa [signs] using hi
    exact hi
  yl := fun F' H' i v H2 s1 s2 hi y => by
    obtain ⟨rfl, c, hc, rfl⟩ := y
    exact ⟨F', .str ⟨#[c]⟩, by simp [signs, hc], New.same s2 (rep_str.mpr rfl)⟩
  st := fun F' H' s1 s2 => by
    show z.cps.size ≤ _
    simp [signs]
def intsFrom (lo : Int) (n : Nat) : List PyData := (List.range n).map fun i => .int (lo + (i : Nat))
theorem walks_range {K : PySem.W.Frag} {F : Hp} {lo : Int} {n : Nat} : Walks K (Itr lo n) (intsFrom lo n) F where
  go := fun F' H' i s1 s2 hi => by
    have hi : i < n := by simpa [intsFrom] using hi
    exact hi
  yl := fun F' H' i v H2 s1 s2 hi y => by
    obtain ⟨rfl, rfl⟩ := y
    have hi : i < n := by simpa [intsFrom] using hi
    exact ⟨F', .int (lo + (i : Nat)), by simp [intsFrom, hi], New.same s2 (rep_int.mpr rfl)⟩
  st := fun F' H' s1 s2 => by
    show n ≤ _
    simp [intsFrom]
def numbered : Nat → List PyData → List PyData
  | _, [] => []
  | k, d :: ds => .tuple [.int (k : Nat), d] :: numbered (k + 1) ds
theorem numbered_length : ∀ (ds : List PyData) (k : Nat), (numbered k ds).length = ds.length
  | [], _ => rfl
  | d :: ds, k => by simp [numbered, numbered_length ds]
theorem numbered_get : ∀ (ds : List PyData) (k i : Nat) (d : PyData), ds[i]? = some d → (numbered k ds)[i]? = some (.tuple [.int ((k + i : Nat) : Int), d])
  | [], _, _, _, h => by simp at h
  | d :: ds, k, 0, x, h => by simp at h; subst h; simp [numbered]
  | d :: ds, k, i + 1, x, h => by
    have := numbered_get ds (k + 1) i x (by simpa using h)
    simp only [numbered, List.getElem?_cons_succ]
    rw [this]
    congr 4
    omega
theorem repL_two {K : PySem.W.Frag} {F : Hp} {a b : V} {x y : PyData} (h1 : Rep K F a x) (h2 : Rep K F b y) : RepL K F [a, b] [x, y] := repL_cons.mpr ⟨_, _, rfl, h1, repL_cons.mpr ⟨_, _, rfl, h2, repL_nil.mpr rfl⟩⟩
theorem walks_enum {K : PySem.W.Frag} {F : Hp} {a : Addr} {vs : List V} {ds : List PyData} (h : F a = some (.lst vs)) (r : RepL K F vs ds) : Walks K (Ite K a) (numbered 0 ds) F where
  go := fun F' H' i s1 s2 hi => by
    rw [numbered_length, ← r.length] at hi
    exact ⟨vs, vs[i], SqL.of (s2 _ _ (s1 _ _ h)), by simp [hi]⟩
  yl := fun F' H' i v H2 s1 s2 hi y => by
    obtain ⟨T, x, rfl, hT, rfl, y⟩ := y
    obtain ⟨d, hd, rd⟩ := r.get (y vs (SqL.of (s2 _ _ (s1 _ _ h))))
    exact ⟨_, _, by rw [numbered_get ds 0 i d hd, Nat.zero_add], New.tup s2 hT (repL_two (rep_int.mpr rfl) (Rep.up s1 _ _ rd))⟩
  st := fun F' H' s1 s2 => ⟨vs, SqL.of (s2 _ _ (s1 _ _ h)), by rw [numbered_length]; exact Nat.le_of_eq r.length⟩
theorem walks_enumT {K : PySem.W.Frag} {F : Hp} {a : Addr} {vs : List V} {ds : List PyData} (h : SqT K F a vs) (r : RepL K F vs ds) : Walks K (IteT K a) (numbered 0 ds) F where
  go := fun F' H' i s1 s2 hi => by
    rw [numbered_length, ← r.length] at hi
    exact ⟨vs, vs[i], SqT.up s2 (SqT.up s1 h), by simp [hi]⟩
  yl := fun F' H' i v H2 s1 s2 hi y => by
    obtain ⟨T, x, rfl, hT, rfl, y⟩ := y
    obtain ⟨d, hd, rd⟩ := r.get (y vs (SqT.up s2 (SqT.up s1 h)))
    exact ⟨_, _, by rw [numbered_get ds 0 i d hd, Nat.zero_add], New.tup s2 hT (repL_two (rep_int.mpr rfl) (Rep.up s1 _ _ rd))⟩
  st := fun F' H' s1 s2 => ⟨vs, SqT.up s2 (SqT.up s1 h), by rw [numbered_length]; exact r.length.symm⟩
def zipped (xs ys : List PyData) : List PyData := List.zipWith (fun a b => .tuple [a, b]) xs ys
theorem zipped_length (xs ys : List PyData) : (zipped xs ys).length = min xs.length ys.length := by simp [zipped]
theorem walks_zip {K : PySem.W.Frag} {F : Hp} {a b : Addr} {vs ws : List V} {ds es : List PyData} (h : F a = some (.lst vs)) (r : RepL K F vs ds) (h2 : F b = some (.lst ws)) (r2 : RepL K F ws es) : Walks K (Itz K a b) (zipped ds es) F where
  go := fun F' H' i s1 s2 hi => by
    rw [zipped_length, ← r.length, ← r2.length] at hi
    have q1 : i < vs.length := by omega
    have q2 : i < ws.length := by omega
    exact walk_zip (K := K) (n := min vs.length ws.length) rfl |>.goes i H' (by omega) ⟨SqL.of (s2 _ _ (s1 _ _ h)), SqL.of (s2 _ _ (s1 _ _ h2))⟩
  yl := fun F' H' i v H2 s1 s2 hi y => by
    rw [zipped_length, ← r.length, ← r2.length] at hi
    obtain ⟨T, x, z, rfl, hT, rfl, y1, y2⟩ := walk_zip (K := K) (n := min vs.length ws.length) rfl |>.yields i H' v H2 (by omega) ⟨SqL.of (s2 _ _ (s1 _ _ h)), SqL.of (s2 _ _ (s1 _ _ h2))⟩ y
    obtain ⟨d, hd, rd⟩ := r.get y1
    obtain ⟨d2, hd2, rd2⟩ := r2.get y2
    exact ⟨_, _, by simp [zipped, List.getElem?_zipWith, hd, hd2], New.tup s2 hT (repL_two (Rep.up s1 _ _ rd) (Rep.up s1 _ _ rd2))⟩
  st := fun F' H' s1 s2 => by
    rw [zipped_length, ← r.length, ← r2.length]
    exact walk_zip (K := K) (n := min vs.length ws.length) rfl |>.stops H' ⟨SqL.of (s2 _ _ (s1 _ _ h)), SqL.of (s2 _ _ (s1 _ _ h2))⟩
theorem walks_zipT {K : PySem.W.Frag} {F : Hp} {a b : Addr} {vs ws : List V} {ds es : List PyData} (h : SqT K F a vs) (r : RepL K F vs ds) (h2 : SqT K F b ws) (r2 : RepL K F ws es) : Walks K (RZ.ItzT K a b) (zipped ds es) F where
  go := fun F' H' i s1 s2 hi => by
    rw [zipped_length, ← r.length, ← r2.length] at hi
    have q1 : i < vs.length := by omega
    have q2 : i < ws.length := by omega
    exact ⟨vs, ws, vs[i], ws[i], SqT.up s2 (SqT.up s1 h), SqT.up s2 (SqT.up s1 h2), by simp [q1], by simp [q2]⟩
  yl := fun F' H' i v H2 s1 s2 hi y => by
    obtain ⟨T, x, z, rfl, hT, rfl, y1, y2⟩ := y
    obtain ⟨d, hd, rd⟩ := r.get (y1 vs (SqT.up s2 (SqT.up s1 h)))
    obtain ⟨d2, hd2, rd2⟩ := r2.get (y2 ws (SqT.up s2 (SqT.up s1 h2)))
    exact ⟨_, _, by simp [zipped, List.getElem?_zipWith, hd, hd2], New.tup s2 hT (repL_two (Rep.up s1 _ _ rd) (Rep.up s1 _ _ rd2))⟩
  st := fun F' H' s1 s2 => ⟨vs, ws, SqT.up s2 (SqT.up s1 h), SqT.up s2 (SqT.up s1 h2), by rw [zipped_length, ← r.length, ← r2.length]; omega⟩
def KI (C : DCx) (σ : L2.St) (F H : Hp) (l : Loc) (env : Env') (R : It → Hp → Prop) : List PyData → Env' → G → Prop := fun xs env' g' =>
  ∀ J F' H' l', Rel C σ F' H' l' env' g' → Ext σ F H l env F' H' l' env' → Walks C.K J xs F' → R J H'
def SimI (C : DCx) (wi : TI) (m : M (List PyData)) : Prop := ∀ (σ : L2.St) (F H : Hp) (l : Loc) (env : Env') (g : G) (R : It → Hp → Prop), Rel C σ F H l env g → Wp (m env g) (KI C σ F H l env R) (KX C σ) → wi σ H R
structure DI (X : Cx) (C : DCx) (tg e : Expr) (m : M (List PyData)) : Prop where
  run : C.K = X.K → ∃ wi, PI X tg e wi ∧ SimI C wi m
/-- a list, a tuple, a text -/
def mItems : PyData → M (List PyData)
  | .list ds => M.pure ds
  | .tuple ds => M.pure ds
  | .str z => M.pure (signs z)
  | _ => M.bad
section
variable {X : Cx} {C : DCx} {pos : Pos} {tg e : Expr} {es : List Expr}
def iSeq (K : PySem.W.Frag) (t : TE) : TI := fun σ H R => t σ H fun x H1 => (∃ a, x = .ref a ∧ (∃ xs, SqL K H1 a xs) ∧ R (Itl K a) H1) ∨ (∃ a, x = .ref a ∧ (∃ xs, SqT K H1 a xs) ∧ R (Itt K a) H1) ∨ ∃ z, x = .str z ∧ R (Its z) H1
theorem pi_seq {t : TE} (h : PE X e t) : PI X tg e (iSeq X.K t) := by
  refine ⟨fun pins s σ H R I w => ?_⟩
  refine thn (h.run pins s σ H _ I w) fun v s1 ⟨x, H1, I1, r1, q1⟩ => ?_
  rcases q1 with ⟨a, rfl, ⟨xs, hq⟩, q⟩ | ⟨a, rfl, ⟨xs, hq⟩, q⟩ | ⟨z, rfl, q⟩
  · cases r1
    obtain ⟨its, rv, p, _⟩ := I1.list hq
    exact wpAny_pyIter_list p.isList (pi_one (tk := s1.toks) I1 _ (turn_list a _) ⟨_, Heap.get?_push_size _ rfl, rfl, rfl⟩ q)
  · cases r1
    obtain ⟨its, rv, p, _⟩ := I1.tuple hq
    exact wpAny_pyIter_tuple (show s1.heap.IsTuple a its.toArray from p) (pi_one (tk := s1.toks) I1 _ (turn_tuple a _) ⟨_, Heap.get?_push_size _ rfl, rfl, rfl⟩ q)
  · obtain ⟨t, rfl⟩ := r1
    cases ha : z.cps.all (· < 128)
    · exact wpAny_pyIter_wide ha (pi_one (tk := s1.toks) I1 _ (turn_str _ z t "str_iterator" (.inr rfl)) ⟨_, Heap.get?_push_size _ rfl, rfl, rfl⟩ q)
    · exact wpAny_pyIter_ascii ha (pi_one (tk := s1.toks) I1 _ (turn_str _ z t "str_ascii_iterator" (.inl rfl)) ⟨_, Heap.get?_push_size _ rfl, rfl, rfl⟩ q)
theorem di_seq {m : M PyData} (h : DD X C e m) : DI X C tg e (m.bind mItems) := by
  refine ⟨fun hK => ?_⟩
  obtain ⟨t, h1, s1⟩ := h.run hK
  refine ⟨_, pi_seq h1, fun σ F H l env g R Rl w => ?_⟩
  refine s1 σ F H l env g _ Rl (Wp.mono (Wp.bind.mp w) (fun d env1 g1 w v F1 H1 l1 R1 x1 r1 => ?_) fun _ _ _ _ w => w)
  cases d with
  | list ds =>
    obtain ⟨a, vs, rfl, q, r⟩ := rep_list.mp r1
    exact .inl ⟨a, rfl, ⟨vs, SqL.of (R1.sub _ _ q)⟩, by rw [← hK]; exact w _ F1 H1 l1 R1 x1 (walks_list q r)⟩
  | tuple ds =>
    obtain ⟨a, vs, rfl, q, r⟩ := rep_tup.mp r1
    exact .inr (.inl ⟨a, rfl, ⟨vs, by rw [← hK]; exact SqT.up R1.sub q⟩, by rw [← hK]; exact w _ F1 H1 l1 R1 x1 (walks_tup q r)⟩)
  | str z => exact .inr (.inr ⟨z, rep_str.mp r1, w _ F1 H1 l1 R1 x1 walks_str⟩)
  | _ => exact w.elim
/-- range(j), range(i, j) -/
def evInts : List EV → Option (List Int)
  | [] => some []
  | .d (.int i) :: r => (evInts r).map (i :: ·)
  | _ :: _ => none
theorem evInts_rep {σ : L2.St} {F H H0 : Hp} {l : Loc} {env : Env'} : ∀ {evs : List EV} {vs : List V} {is : List Int}, Paired (fun v ev => RepEV C σ F H l env v ev ∧ FreshAt H0 v ev) vs evs → evInts evs = some is → vs = is.map V.int
  | [], _, _, .nil, h => by cases h; rfl
  | ev :: evs, _, is, .cons r t, h => by
    cases ev with
    | d x =>
      cases x with
      | int i =>
        cases q : evInts evs with
        | none => simp [evInts, q] at h
        | some js =>
          simp [evInts, q] at h
          subst h
          rw [evInts_rep t q, show _ = V.int i from rep_int.mp (show Rep C.K F _ (.int i) from r.1)]
          rfl
      | _ => simp [evInts] at h
    | _ => simp [evInts] at h
def rngTo (i j : Int) : Option (List PyData) := if i.natAbs < 2 ^ 62 ∧ j.natAbs < 2 ^ 62 then some (intsFrom i (j - i).toNat) else none
theorem rngTo_inv {i j : Int} {xs : List PyData} (h : rngTo i j = some xs) : (-(2 ^ 62) ≤ i ∧ i < 2 ^ 62 ∧ -(2 ^ 62) ≤ j ∧ j < 2 ^ 62) ∧ intsFrom i (j - i).toNat = xs := by
  unfold rngTo at h
  split at h
  · rename_i c; exact ⟨⟨by omega, by omega, by omega, by omega⟩, Option.some.inj h⟩
  · cases h
def rng1 : List Int → M (List PyData)
  | [j] => M.opt (rngTo 0 j)
  | _ => M.bad
def rng2 : List Int → M (List PyData)
  | [i, j] => M.opt (rngTo i j)
  | _ => M.bad
def mRange1 (evs : List EV) : M (List PyData) := (M.opt (evInts evs)).bind rng1
def mRange2 (evs : List EV) : M (List PyData) := (M.opt (evInts evs)).bind rng2
theorem wp_ite {α : Type} {c : Prop} [Decidable c] {m : M α} {e : Env'} {g : G} {K : α → Env' → G → Prop} {E : Str → PyData → Env' → G → Prop} (h : Wp ((if c then m else M.bad) e g) K E) : c ∧ Wp (m e g) K E := by
  by_cases q : c
  · rw [if_pos q] at h; exact ⟨q, h⟩
  · rw [if_neg q] at h; exact h.elim
theorem di_range1 {a : Expr} {p : Pos} {m : M (List EV)} (hg : Gl X "range") (hm : X.mg "range" = none) (h : DA X C [a] m) (hs : starEach [a] X.env = [(false, eval a X.env)] := by rfl) : DI X C tg (.Call (.Name "range" p) [a] [] pos) (m.bind mRange1) := by
  refine ⟨fun hK => ?_⟩
  obtain ⟨t, h1, s1⟩ := h.run hK
  refine ⟨_, pi_range1 hg hm h1 hs, fun σ F H l env g R Rl w => ?_⟩
  refine s1 σ F H l env g _ Rl (Wp.mono (Wp.bind.mp w) (fun evs env1 g1 w vs F1 H1 l1 R1 x1 r1 => ?_) fun _ _ _ _ w => w)
  obtain ⟨is, q, w⟩ := Wp.opt (Wp.bind.mp w)
  rcases is with _ | ⟨j, _ | ⟨k, t⟩⟩
  · exact w.elim
  · obtain ⟨xs, q1, w⟩ := Wp.opt w
    obtain ⟨⟨_, _, c1, c2⟩, rfl⟩ := rngTo_inv q1
    rw [Int.sub_zero] at w
    exact ⟨j, evInts_rep r1 q, c1, c2, w _ F1 H1 l1 R1 x1 walks_range⟩
  · exact w.elim
theorem di_range2 {a b : Expr} {p : Pos} {m : M (List EV)} (hg : Gl X "range") (hm : X.mg "range" = none) (h : DA X C [a, b] m) (hs : starEach [a, b] X.env = [(false, eval a X.env), (false, eval b X.env)] := by rfl) (hs2 : starEach [b] X.env = [(false, eval b X.env)] := by rfl) :
    DI X C tg (.Call (.Name "range" p) [a, b] [] pos) (m.bind mRange2) := by
  refine ⟨fun hK => ?_⟩
  obtain ⟨t, h1, s1⟩ := h.run hK
  refine ⟨_, pi_range2 hg hm h1 hs hs2, fun σ F H l env g R Rl w => ?_⟩
  refine s1 σ F H l env g _ Rl (Wp.mono (Wp.bind.mp w) (fun evs env1 g1 w vs F1 H1 l1 R1 x1 r1 => ?_) fun _ _ _ _ w => w)
  obtain ⟨is, q, w⟩ := Wp.opt (Wp.bind.mp w)
  rcases is with _ | ⟨i, _ | ⟨j, _ | ⟨k, t⟩⟩⟩
  · exact w.elim
  · exact w.elim
  · obtain ⟨xs, q1, w⟩ := Wp.opt w
    obtain ⟨c, rfl⟩ := rngTo_inv q1
    exact ⟨i, j, evInts_rep r1 q, c, w _ F1 H1 l1 R1 x1 walks_range⟩
  · exact w.elim
/-- enumerate of a list or a tuple -/
def mEnum : List EV → M (List PyData)
  | [.d (.list ds)] => M.pure (numbered 0 ds)
  | [.d (.tuple ds)] => M.pure (numbered 0 ds)
  | _ => M.bad
def iEnumA (K : PySem.W.Frag) (ta : TA) : TI := fun σ H R => ta σ H fun vs H1 => ∃ a, vs = [.ref a] ∧ ((∃ xs, SqL K H1 a xs ∧ R (Ite K a) H1) ∨ ∃ xs, SqT K H1 a xs ∧ R (IteT K a) H1)
theorem pi_enumA {a : Expr} {ta : TA} {p tpos : Pos} {elts : List Expr} {kk : Nat} (hg : Gl X "enumerate") (hm : X.mg "enumerate" = none) (ha : PA X [a] ta) (hs : starEach [a] X.env = [(false, eval a X.env)] := by rfl) :
    PI X (.Tuple elts kk tpos) (.Call (.Name "enumerate" p) [a] [] pos) (iEnumA X.K ta) := by
  refine ⟨fun pins s σ H R I h => ?_⟩
  refine PyProof.Rows.Call_ (ld_blt I hg hm PyProof.Rows.boot_enumerate (PyProof.Rows.callWith_type1 (thn (ha.run pos pins s σ H _ I h) fun us s1 ⟨vs, H1, I1, r1, q1⟩ => ?_) hs rfl))
  obtain ⟨a, ex, q1⟩ := q1
  subst ex
  cases r1 with
  | cons r rr =>
    cases rr
    cases r
    have two : ∀ b, b ∈ [s1.heap.objs.size + 1, s1.heap.objs.size] → FpOk X pins H1 b := fun b hb => by
      have hle : s1.heap.objs.size ≤ b := by
        rcases (show b = s1.heap.objs.size + 1 ∨ b = s1.heap.objs.size by simpa using hb) with z | z <;> omega
      exact I1.fpOk hle (I1.hok.fresh hle)
    rcases q1 with ⟨xs, hq, q⟩ | ⟨xs, hq, q⟩
    · obtain ⟨its, rv, p', hz⟩ := I1.list hq
      refine enumCall1 (begins_list a its.toArray) p'.isList fun h' he ho hk => wpAny_pyIter_enum he ?_
      have I2 : Inv X pins σ H1 { s1 with heap := h' } := I1.kept (t' := s1.toks) hk
      exact ⟨s1.heap.objs.size + 1, [s1.heap.objs.size + 1, s1.heap.objs.size], _, _, H1, rfl, I2, turn_enum a (s1.heap.objs.size + 1) s1.heap.objs.size, ⟨⟨.none, he⟩, ⟨_, ho, rfl, rfl⟩, Nat.succ_ne_self _⟩, two, q⟩
    · obtain ⟨its, rv, p', hz⟩ := I1.tuple hq
      refine enumCall1 (begins_tuple a its.toArray) (show s1.heap.IsTuple a its.toArray from p') fun h' he ho hk => wpAny_pyIter_enum he ?_
      have I2 : Inv X pins σ H1 { s1 with heap := h' } := I1.kept (t' := s1.toks) hk
      exact ⟨s1.heap.objs.size + 1, [s1.heap.objs.size + 1, s1.heap.objs.size], _, _, H1, rfl, I2, turnEnumT a (s1.heap.objs.size + 1) s1.heap.objs.size, ⟨⟨.none, he⟩, ⟨_, ho, rfl, rfl⟩, Nat.succ_ne_self _⟩, two, q⟩
theorem di_enum {a : Expr} {p tpos : Pos} {elts : List Expr} {kk : Nat} {m : M (List EV)} (hg : Gl X "enumerate") (hm : X.mg "enumerate" = none) (h : DA X C [a] m) (hs : starEach [a] X.env = [(false, eval a X.env)] := by rfl) :
    DI X C (.Tuple elts kk tpos) (.Call (.Name "enumerate" p) [a] [] pos) (m.bind mEnum) := by
  refine ⟨fun hK => ?_⟩
  obtain ⟨t, h1, s1⟩ := h.run hK
  refine ⟨_, pi_enumA hg hm h1 hs, fun σ F H l env g R Rl w => ?_⟩
  refine s1 σ F H l env g _ Rl (Wp.mono (Wp.bind.mp w) (fun evs env1 g1 w vs F1 H1 l1 R1 x1 r1 => ?_) fun _ _ _ _ w => w)
  unfold mEnum at w
  split at w
  · rename_i ds
    cases r1 with
    | cons r rr =>
      cases rr
      obtain ⟨a, vs, rfl, q, r⟩ := rep_list.mp (show Rep C.K F1 _ (.list ds) from r.1)
      exact ⟨a, rfl, .inl ⟨vs, SqL.of (R1.sub _ _ q), by rw [← hK]; exact w _ F1 H1 l1 R1 x1 (walks_enum q r)⟩⟩
  · rename_i ds
    cases r1 with
    | cons r rr =>
      cases rr
      obtain ⟨a, vs, rfl, q, r⟩ := rep_tup.mp (show Rep C.K F1 _ (.tuple ds) from r.1)
      exact ⟨a, rfl, .inr ⟨vs, by rw [← hK]; exact SqT.up R1.sub q, by rw [← hK]; exact w _ F1 H1 l1 R1 x1 (walks_enumT q r)⟩⟩
  · exact w.elim
/-- zip of two lists, of two tuples -/
def mZip : List EV → M (List PyData)
  | [.d (.list ds), .d (.list es)] => M.pure (zipped ds es)
  | [.d (.tuple ds), .d (.tuple es)] => M.pure (zipped ds es)
  | _ => M.bad
theorem di_zip {a b : Expr} {p tpos : Pos} {elts : List Expr} {kk : Nat} {m : M (List EV)} (hg : Gl X "zip") (hm : X.mg "zip" = none) (h : DA X C [a, b] m) (hs : starEach [a, b] X.env = (false, eval a X.env) :: starEach [b] X.env := by rfl) (hpl : (backTo pos (starEach [b] X.env)).any (·.1) = false := by rfl) :
    DI X C (.Tuple elts kk tpos) (.Call (.Name "zip" p) [a, b] [] pos) (m.bind mZip) := by
  refine ⟨fun hK => ?_⟩
  obtain ⟨t, h1, s1⟩ := h.run hK
  refine ⟨_, RZ.pi_zipA hg hm h1 hs hpl, fun σ F H l env g R Rl w => ?_⟩
  refine s1 σ F H l env g _ Rl (Wp.mono (Wp.bind.mp w) (fun evs env1 g1 w vs F1 H1 l1 R1 x1 r1 => ?_) fun _ _ _ _ w => w)
  unfold mZip at w
  split at w
  · rename_i ds es
    cases r1 with
    | cons r rr =>
      cases rr with
      | cons r' rr =>
        cases rr
        obtain ⟨a, vs, rfl, q, r⟩ := rep_list.mp (show Rep C.K F1 _ (.list ds) from r.1)
        obtain ⟨b, ws, rfl, q', r'⟩ := rep_list.mp (show Rep C.K F1 _ (.list es) from r'.1)
        exact ⟨a, b, vs, ws, rfl, .inl ⟨SqL.of (R1.sub _ _ q), SqL.of (R1.sub _ _ q'), by rw [← hK]; exact w _ F1 H1 l1 R1 x1 (walks_zip q r q' r')⟩⟩
  · rename_i ds es
    cases r1 with
    | cons r rr =>
      cases rr with
      | cons r' rr =>
        cases rr
        obtain ⟨a, vs, rfl, q, r⟩ := rep_tup.mp (show Rep C.K F1 _ (.tuple ds) from r.1)
        obtain ⟨b, ws, rfl, q', r'⟩ := rep_tup.mp (show Rep C.K F1 _ (.tuple es) from r'.1)
        exact ⟨a, b, vs, ws, rfl, .inr ⟨by rw [← hK]; exact SqT.up R1.sub q, by rw [← hK]; exact SqT.up R1.sub q', by rw [← hK]; exact w _ F1 H1 l1 R1 x1 (walks_zipT q r q' r')⟩⟩
  · exact w.elim
end
end DL
namespace DL
open PySem L2
/-! ### comprehensions -/
def wipeE (env : Env') : List Nat → Env'
  | [] => env
  | v :: vs => (wipeE env vs).set v .un
/-- the names of the block as they were ahead -/
def backE (e0 e : Env') : List Nat → Env'
  | [] => e
  | v :: vs => match e0[v]? with
    | some s => (backE e0 e vs).set v s
    | none => backE e0 e vs
def noOwn (e : Env') (vs : List Nat) : Bool := vs.all fun i => match e[i]? with
  | some (.own _) => false
  | _ => true
theorem wipeE_length (e : Env') : ∀ vs : List Nat, (wipeE e vs).length = e.length
  | [] => rfl
  | v :: vs => by simp [wipeE, wipeE_length e vs]
theorem wipeE_in {e : Env'} {i : Nat} {s : Slot} : ∀ {vs : List Nat}, (wipeE e vs)[i]? = some s → i ∈ vs → s = .un
  | v :: vs, h, hi => by
    rcases get_set_cases h with ⟨_, w⟩ | ⟨z, q⟩
    · exact w.symm
    · rcases List.mem_cons.mp hi with y | y
      · exact absurd y.symm z
      · exact wipeE_in q y
theorem wipeE_out {e : Env'} {i : Nat} : ∀ {vs : List Nat}, i ∉ vs → (wipeE e vs)[i]? = e[i]?
  | [], _ => rfl
  | v :: vs, h => by
    rw [List.mem_cons, not_or] at h
    rw [wipeE, get_set_ne (fun z => h.1 z.symm)]
    exact wipeE_out h.2
theorem wipe_out' {σ : L2.St} {i : Nat} : ∀ {vs : List Nat}, i ∉ vs → (wipe σ vs)[i]? = σ[i]?
  | [], _ => rfl
  | v :: vs, h => by
    rw [List.mem_cons, not_or] at h
    rw [wipe, get_set_ne (fun z => h.1 z.symm)]
    exact wipe_out' h.2
theorem wipeE_not {e : Env'} {i : Nat} {s : Slot} {vs : List Nat} (h : (wipeE e vs)[i]? = some s) (n : s ≠ .un) : i ∉ vs ∧ e[i]? = some s := by
  have hi : i ∉ vs := fun z => n (wipeE_in h z)
  exact ⟨hi, by rw [← wipeE_out hi]; exact h⟩
theorem Rel.wiped {C : DCx} {σ : L2.St} {F H : Hp} {l : Loc} {env : Env'} {g : G} (R : Rel C σ F H l env g) (vs : List Nat) : Rel C (wipe σ vs) F H l (wipeE env vs) g where
  sub := R.sub
  len := by rw [wipe_length, wipeE_length]; exact R.len
  dat := fun i x e => by
    obtain ⟨h1, h2⟩ := wipeE_not e (by nofun)
    rw [wipe_out' h1]
    exact R.dat i x h2
  own := fun i x e => by
    obtain ⟨h1, h2⟩ := wipeE_not e (by nofun)
    rw [wipe_out' h1]
    exact R.own i x h2
  inj := fun i j x y a e1 e2 h1 h2 => by
    obtain ⟨p1, q1⟩ := wipeE_not e1 (by nofun)
    obtain ⟨p2, q2⟩ := wipeE_not e2 (by nofun)
    rw [wipe_out' p1] at h1
    rw [wipe_out' p2] at h2
    exact R.inj i j x y a q1 q2 h1 h2
  iscr := fun i ns e => by
    obtain ⟨h1, h2⟩ := wipeE_not e (by nofun)
    rw [wipe_out' h1]
    exact R.iscr i ns h2
  isrc := fun i b e => by
    obtain ⟨h1, h2⟩ := wipeE_not e (by nofun)
    rw [wipe_out' h1]
    exact R.isrc i b h2
  src := R.src
  old := R.old
  oldd := R.oldd
  f0 := R.f0
  fo := R.fo
  lo := R.lo
  l0 := R.l0
theorem OwnAt.wiped {σ : L2.St} {env : Env'} {vs : List Nat} {a : Addr} (h : OwnAt (wipe σ vs) (wipeE env vs) a) : OwnAt σ env a := by
  obtain ⟨i, x, e, q⟩ := h
  obtain ⟨h1, h2⟩ := wipeE_not e (by nofun)
  rw [wipe_out' h1] at q
  exact ⟨i, x, h2, q⟩
theorem OwnAt.wipe {σ : L2.St} {env : Env'} {vs : List Nat} {a : Addr} (h : OwnAt σ env a) (n : noOwn env vs = true) : OwnAt (L2.wipe σ vs) (wipeE env vs) a := by
  obtain ⟨i, x, e, q⟩ := h
  have hi : i ∉ vs := fun z => by
    have := List.all_eq_true.mp n i z
    simp [e] at this
  exact ⟨i, x, by rw [wipeE_out hi]; exact e, by rw [wipe_out' hi]; exact q⟩
theorem backE_length (e0 e : Env') : ∀ vs : List Nat, (backE e0 e vs).length = e.length
  | [] => rfl
  | v :: vs => by
    unfold backE
    split
    · rw [List.length_set, backE_length e0 e vs]
    · exact backE_length e0 e vs
theorem backE_get {e0 e : Env'} {i : Nat} {s : Slot} : ∀ {vs : List Nat}, (backE e0 e vs)[i]? = some s → (i ∈ vs ∧ e0[i]? = some s) ∨ (e[i]? = some s ∧ (i ∉ vs ∨ e0[i]? = none))
  | [], h => .inr ⟨h, .inl (by simp)⟩
  | v :: vs, h => by
    unfold backE at h
    split at h
    · rename_i t q
      rcases get_set_cases h with ⟨z, w⟩ | ⟨z, h⟩
      · subst z; subst w; exact .inl ⟨by simp, q⟩
      · rcases backE_get h with ⟨h1, h2⟩ | ⟨h1, h2⟩
        · exact .inl ⟨by simp [h1], h2⟩
        · refine .inr ⟨h1, h2.elim (fun w => .inl ?_) .inr⟩
          rw [List.mem_cons, not_or]
          exact ⟨fun y => z y.symm, w⟩
    · rename_i q
      rcases backE_get h with ⟨h1, h2⟩ | ⟨h1, h2⟩
      · exact .inl ⟨by simp [h1], h2⟩
      · by_cases y : i = v
        · subst y; exact .inr ⟨h1, .inr q⟩
        · refine .inr ⟨h1, h2.elim (fun w => .inl ?_) .inr⟩
          rw [List.mem_cons, not_or]
          exact ⟨y, w⟩
/-- the end of a block -/
theorem Rel.back {C : DCx} {σ : L2.St} {F H F' H' : Hp} {l l' : Loc} {e0 e : Env'} {g g' : G} {vs : List Nat} (R0 : Rel C σ F H l e0 g) (n : noOwn e0 vs = true) (R : Rel C (wipe σ vs) F' H' l' e g') (x : ExtO (OwnAt σ e0) F H l F' H' l' (OwnAt (wipe σ vs) e)) :
    Rel C σ F' H' l' (backE e0 e vs) g' ∧ Ext σ F H l e0 F' H' l' (backE e0 e vs) := by
  have len0 : e0.length = e.length := by rw [← R0.len, ← R.len, wipe_length]
  have key : ∀ i s, (backE e0 e vs)[i]? = some s → (i ∈ vs ∧ e0[i]? = some s) ∨ (e[i]? = some s ∧ i ∉ vs) := fun i s h => by
    rcases backE_get h with q | ⟨q1, q2⟩
    · exact .inl q
    · refine .inr ⟨q1, q2.elim id fun w z => ?_⟩
      have := (List.getElem?_eq_some_iff.mp q1).1
      rw [List.getElem?_eq_none_iff] at w
      omega
  have own' : ∀ i y, (backE e0 e vs)[i]? = some (.own y) → e[i]? = some (.own y) ∧ i ∉ vs := fun i y h => by
    rcases key i _ h with ⟨h1, h2⟩ | q
    · have := List.all_eq_true.mp n i h1
      simp [h2] at this
    · exact q
  have oa : ∀ a, OwnAt σ (backE e0 e vs) a → OwnAt (wipe σ vs) e a := fun a ⟨i, y, h1, h2⟩ => by
    obtain ⟨q1, q2⟩ := own' i y h1
    exact ⟨i, y, q1, by rw [wipe_out' q2]; exact h2⟩
  refine ⟨⟨R.sub, by rw [backE_length, ← R.len, wipe_length], fun i y h => ?_, fun i y h => ?_, fun i j y z a h1 h2 g1 g2 => ?_, fun i ns h => ?_, fun i bb h => ?_, R.src, R.old, R.oldd, R.f0, R.fo, R.lo, R.l0⟩, x.conv (fun _ h => h) fun a h => x.ow a (oa a h)⟩
  · rcases key i _ h with ⟨h1, h2⟩ | ⟨h1, h2⟩
    · obtain ⟨v, e1, r⟩ := R0.dat i y h2
      exact ⟨v, e1, Rep.up x.fs _ _ r⟩
    · rw [← wipe_out' h2]; exact R.dat i y h1
  · obtain ⟨h1, h2⟩ := own' i y h
    rw [← wipe_out' h2]; exact R.own i y h1
  · obtain ⟨p1, q1⟩ := own' i y h1
    obtain ⟨p2, q2⟩ := own' j z h2
    exact R.inj i j y z a p1 p2 (by rw [wipe_out' q1]; exact g1) (by rw [wipe_out' q2]; exact g2)
  · rcases key i _ h with ⟨h1, h2⟩ | ⟨h1, h2⟩
    · obtain ⟨v, e1, r⟩ := R0.iscr i ns h2
      exact ⟨v, e1, x.fs.seq r⟩
    · rw [← wipe_out' h2]; exact R.iscr i ns h1
  · rcases key i _ h with ⟨h1, h2⟩ | ⟨h1, h2⟩
    · obtain ⟨d, c, e1, r⟩ := R0.isrc i _ h2
      exact ⟨d, c, x.ls _ e1, r⟩
    · rw [← wipe_out' h2]; exact R.isrc i _ h1
def loopC (p : Pat) (vs : List Nat) (mt : M Bool) (me : M PyData) : List PyData → List PyData → M (List PyData)
  | [], acc => M.pure acc
  | x :: xs, acc => fun e g => match asg p x e with
    | none => .bad
    | some e1 => (mt.bind fun b => if b then me.bind fun y => fun e2 g2 => if acc.length < sizeLine then loopC p vs mt me xs (acc ++ [y]) (wipeE e2 vs) g2 else .bad
        else fun e2 g2 => loopC p vs mt me xs acc (wipeE e2 vs) g2) e1 g
def blockOf {α : Type} (vs : List Nat) (m : M α) : M α := fun e g => if noOwn e vs then (match m (wipeE e vs) g with
    | .ok a e' g' => .ok a (backE e e' vs) g'
    | _ => .bad) else .bad
def mComp (p : Pat) (vs : List Nat) (mi : M (List PyData)) (mt : M Bool) (me : M PyData) : M EV :=
  mi.bind fun xs => (blockOf vs (loopC p vs mt me xs [])).bind fun ys => M.pure (.fr (.list ys))
def mYes : M Bool := M.pure true
structure DTs (X : Cx) (C : DCx) (es : List Expr) (m : M Bool) : Prop where
  run : C.K = X.K → ∃ t, PTs X es t ∧ SimT C t m
theorem dts_nil {X : Cx} {C : DCx} : DTs X C [] mYes := ⟨fun _ => ⟨_, pts_nil, fun σ F H l env g Q R w => w F H l R .refl⟩⟩
theorem dts_one {X : Cx} {C : DCx} {e : Expr} {m : M Bool} (h : DT X C e m) : DTs X C [e] m := ⟨fun hK => let ⟨t, h1, s⟩ := h.run hK; ⟨_, pts_one h1, s⟩⟩
/-- within a block nothing is raised -/
abbrev DCx.calm (C : DCx) : DCx := { C with W := fun _ _ _ _ => False }
theorem Rel.calm {C : DCx} {σ : L2.St} {F H : Hp} {l : Loc} {env : Env'} {g : G} (R : Rel C σ F H l env g) : Rel C.calm σ F H l env g :=
  ⟨R.sub, R.len, R.dat, R.own, R.inj, R.iscr, R.isrc, R.src, R.old, R.oldd, R.f0, R.fo, R.lo, R.l0⟩
theorem Rel.uncalm {C : DCx} {σ : L2.St} {F H : Hp} {l : Loc} {env : Env'} {g : G} (R : Rel C.calm σ F H l env g) : Rel C σ F H l env g :=
  ⟨R.sub, R.len, R.dat, R.own, R.inj, R.iscr, R.isrc, R.src, R.old, R.oldd, R.f0, R.fo, R.lo, R.l0⟩
/-- the list that is made: tracked, no one's own -/
structure Made (C : DCx) (F H : Hp) (l : Loc) (O : Addr → Prop) (D : Addr) (acc : List PyData) : Prop where
  at_ : ∃ vs, H D = some (.lst vs) ∧ RepL C.K F vs acc
  nf : F D = none
  n0 : C.H0 D = none
  ns : ¬ SrcAt l D
  no : ¬ O D
theorem Made.up {C : DCx} {F H F' H' : Hp} {l l' : Loc} {O O' : Addr → Prop} {D : Addr} {acc : List PyData} (m : Made C F H l O D acc) (x : ExtO O F H l F' H' l' O') : Made C F' H' l' O' D acc := by
  obtain ⟨vs, h1, h2⟩ := m.at_
  refine ⟨⟨vs, x.hk _ _ h1 m.no m.ns, RepL.up x.fs _ _ h2⟩, ?_, m.n0, fun z => ?_, fun z => m.no (x.ow _ z)⟩
  · refine Classical.byContradiction fun z => ?_
    rcases x.gr _ z with q | q | q
    · exact q m.nf
    · rw [h1] at q; cases q
    · exact m.no q
  · rcases x.ln _ z with q | q
    · exact m.ns q
    · rw [h1] at q; cases q
/-- an item more in it -/
theorem Rel.made {C : DCx} {σ : L2.St} {F H : Hp} {l : Loc} {env : Env'} {g : G} {D : Addr} {acc : List PyData} {vs : List V} {d : PyData} {v : V} (R : Rel C σ F H l env g) (m : Made C F H l (OwnAt σ env) D acc) (h : H D = some (.lst vs)) (rv : Rep C.K F v d) :
    Rel C σ F (upd H D (.lst (vs ++ [v]))) l env g ∧ Made C F (upd H D (.lst (vs ++ [v]))) l (OwnAt σ env) D (acc ++ [d]) ∧ ∀ {O : Addr → Prop} {F0 H0 : Hp} {l0 : Loc}, ExtO O F0 H0 l0 F H l (OwnAt σ env) → H0 D = none → ExtO O F0 H0 l0 F (upd H D (.lst (vs ++ [v]))) l (OwnAt σ env) := by
  obtain ⟨ws, h1, h2⟩ := m.at_
  rw [h] at h1
  cases h1
  have kp : ∀ b o, F b = some o → upd H D (.lst (vs ++ [v])) b = some o := fun b o e => by
    rw [upd_ne (ne_of_none e m.nf)]; exact R.sub _ _ e
  have nsrc : ∀ p, l = some p → p.1 ≠ D ∧ p.2 ≠ D := fun p e => ⟨fun z => m.ns ⟨p, e, .inl z.symm⟩, fun z => m.ns ⟨p, e, .inr z.symm⟩⟩
  refine ⟨⟨kp, R.len, R.dat, fun i x e => ?_, R.inj, R.iscr, R.isrc, ?_, fun a o e ns => ?_, fun a e => ?_, R.f0, R.fo, R.lo, R.l0⟩, ⟨⟨_, upd_same, h2.append (repL_cons.mpr ⟨_, _, rfl, rv, repL_nil.mpr rfl⟩)⟩, m.nf, m.n0, m.ns, m.no⟩, fun {O F0 H0 l0} x hn => ⟨x.fs, fun a e => ?_, fun a o e n1 n2 => ?_, x.gr, x.ow, x.ls, x.ln⟩⟩
  · obtain ⟨a, q1, q2, q3, q4, q5⟩ := R.own i x e
    have ha : a ≠ D := fun z => m.no ⟨i, x, e, by rw [← z]; exact q1⟩
    exact ⟨a, q1, q2.up (.refl _) fun o q => by rw [upd_ne ha]; exact q, q3, q4, q5⟩
  · have q := R.src
    cases l with
    | none => cases g with
      | none => trivial
      | some s => exact q.elim
    | some p => cases g with
      | none => exact q.elim
      | some s =>
        obtain ⟨g1, g2, g3, g4, g5⟩ := q
        obtain ⟨n1, n2⟩ := nsrc p rfl
        exact ⟨g1, by rw [upd_ne n1]; exact g2, by rw [upd_ne n2]; exact g3, g4, g5⟩
  · have ha : a ≠ D := fun z => by rw [z, m.n0] at e; cases e
    rw [upd_ne ha]; exact R.old a o e ns
  · by_cases ha : a = D
    · subst ha; rw [upd_same]; nofun
    · rw [upd_ne ha]; exact R.oldd a e
  · by_cases ha : a = D
    · subst ha; rw [upd_same]; nofun
    · rw [upd_ne ha]; exact x.hd a e
  · have ha : a ≠ D := fun z => by rw [z, hn] at e; cases e
    rw [upd_ne ha]; exact x.hk a o e n1 n2
theorem blockOf_wp {α : Type} {vs : List Nat} {m : M α} {e : Env'} {g : G} {K : α → Env' → G → Prop} {E : Str → PyData → Env' → G → Prop} (h : Wp (blockOf vs m e g) K E) : noOwn e vs = true ∧ Wp (m (wipeE e vs) g) (fun a e' g' => K a (backE e e' vs) g') (fun _ _ _ _ => False) := by
  unfold blockOf at h
  by_cases c : noOwn e vs = true
  · rw [if_pos c] at h
    refine ⟨c, ?_⟩
    cases q : m (wipeE e vs) g with
    | ok a e' g' => rw [q] at h; exact h
    | exc _ _ _ _ => rw [q] at h; exact h.elim
    | bad => rw [q] at h; exact h.elim
  · rw [if_neg c] at h
    exact h.elim
theorem wipe_in {σ : L2.St} {i : Nat} : ∀ {vs : List Nat}, i ∈ vs → i < σ.length → (wipe σ vs)[i]? = some none
  | v :: vs, h, hl => by
    by_cases e : v = i
    · subst e
      rw [wipe, List.getElem?_set_self (by rw [wipe_length]; exact hl)]
    · rw [wipe, get_set_ne e]
      rcases List.mem_cons.mp h with q | q
      · exact absurd q.symm e
      · exact wipe_in q hl
theorem wipe_off {σ σ2 : L2.St} {is vs : List Nat} (h : Off is (wipe σ vs) σ2) (hs : ∀ i ∈ is, i ∈ vs) : wipe σ2 vs = wipe σ vs := by
  refine List.ext_getElem? fun i => ?_
  by_cases hi : i ∈ vs
  · by_cases hl : i < σ.length
    · rw [wipe_in hi hl, wipe_in hi (by rw [h.1, wipe_length]; exact hl)]
    · rw [List.getElem?_eq_none (by rw [wipe_length, h.1, wipe_length]; omega), List.getElem?_eq_none (by rw [wipe_length]; omega)]
  · rw [wipe_out' hi, h.2 i fun z => hi (hs i z)]
theorem drop_get {α : Type} {xs : List α} {i : Nat} {d : α} (h : xs[i]? = some d) : xs.drop i = d :: xs.drop (i + 1) := by
  obtain ⟨h1, h2⟩ := List.getElem?_eq_some_iff.mp h
  rw [List.drop_eq_getElem_cons h1, h2]
theorem wp_iteR {α : Type} {c : Prop} [Decidable c] {r : R α} {K : α → Env' → G → Prop} {E : Str → PyData → Env' → G → Prop} (h : Wp (if c then r else .bad) K E) : c ∧ Wp r K E := by
  by_cases q : c
  · rw [if_pos q] at h; exact ⟨q, h⟩
  · rw [if_neg q] at h; exact h.elim
theorem ExtO.shrink {O O' : Addr → Prop} {F H : Hp} {l : Loc} (h : ∀ a, O' a → O a) : ExtO O F H l F H l O' :=
  ⟨fun _ _ e => e, fun _ e => e, fun _ _ e _ _ => e, fun _ e => .inl e, h, fun _ e => e, fun _ e => .inl e⟩
theorem simComp {C : DCx} {wi : TI} {g : TG} {tt : TT} {te : TE} {p : Pat} {vs : List Nat} {mi : M (List PyData)} {mt : M Bool} {me : M PyData} (hi : SimI C wi mi) (hg : SimG C.calm g p) (ht : SimT C.calm tt mt) (he : SimD C.calm te me) (hp : ∀ i ∈ p.idx, i ∈ vs) :
    SimE C (tLc wi g tt te vs) (mComp p vs mi mt me) := by
  intro σ F H l env gs Q Rl w
  refine hi σ F H l env gs _ Rl (Wp.mono (Wp.bind.mp w) (fun xs env1 g1 w J F1 H1 l1 R1 x1 W1 => ?_) fun _ _ _ _ w => w)
  intro D hD
  obtain ⟨no, w⟩ := blockOf_wp (Wp.bind.mp w)
  have nF : F1 D = none := none_sub R1.sub hD
  have n0 : C.H0 D = none := none_of_none R1.oldd hD
  have nS : ¬ SrcAt l1 D := fun z => by
    obtain ⟨o, ho⟩ := R1.src.srcH z
    rw [hD] at ho; cases ho
  have nO : ¬ OwnAt σ env1 D := fun z => by
    obtain ⟨_, _, _, o, ho⟩ := R1.ownF z
    rw [hD] at ho; cases ho
  have nw : New C.K F1 H1 F1 (upd H1 D (.lst [])) (V.ref D) (.fr (.list [])) :=
    ⟨.refl _, Same.upd hD, R1.sub.trans (Same.upd hD), fun _ e => .inl e, D, rfl, hD, nF, [], upd_same, repL_nil.mpr rfl⟩
  obtain ⟨R2, x2, _⟩ := R1.new nw
  let N : Nat → Hp → Prop := fun i H' => ∃ (F' : Hp) (l' : Loc) (e' : Env') (g' : G) (acc : List PyData), Rel C.calm (wipe σ vs) F' H' l' e' g' ∧ ExtO (OwnAt σ env1) F1 H1 l1 F' H' l' (OwnAt (wipe σ vs) e') ∧ Made C.calm F' H' l' (OwnAt (wipe σ vs) e') D acc ∧
    Wp (loopC p vs mt me (xs.drop i) acc e' g') (fun ys e'' g'' => KE C σ F H l env Q (.fr (.list ys)) (backE env1 e'' vs) g'') (fun _ _ _ _ => False)
  refine ⟨fun i m H' => m = xs.length - i ∧ i ≤ xs.length ∧ N i H', ⟨_, rfl, Nat.zero_le _, F1, l1, wipeE env1 vs, g1, [], (R2.wiped vs).calm, x2.conv (fun _ h => h) fun a h => h.wiped, ⟨⟨[], upd_same, repL_nil.mpr rfl⟩, nF, n0, nS, fun z => nO z.wiped⟩, w⟩, ?_⟩
  rintro i m H' ⟨rfl, hle, F', l', e', g', acc, R', x', mk, w⟩
  by_cases hlt : i < xs.length
  · refine .inr ⟨W1.go F' H' i x'.fs R'.sub hlt, fun H2 => N (i + 1) H2, fun H2 q => ⟨_, by omega, rfl, hlt, q⟩, fun x H2 y => ?_⟩
    obtain ⟨F2, d, hd, nw2⟩ := W1.yl F' H' i x H2 x'.fs R'.sub hlt y
    obtain ⟨R3, x3, r3⟩ := R'.new nw2
    rw [drop_get hd] at w
    replace w : Wp (match asg p d e' with
      | none => R.bad
      | some e1 => (mt.bind fun b => if b then me.bind fun y => fun e2 g2 => if acc.length < sizeLine then loopC p vs mt me (xs.drop (i + 1)) (acc ++ [y]) (wipeE e2 vs) g2 else .bad
          else fun e2 g2 => loopC p vs mt me (xs.drop (i + 1)) acc (wipeE e2 vs) g2) e1 g') _ _ := w
    cases ha : asg p d e' with
    | none => rw [ha] at w; exact w.elim
    | some e1 =>
      rw [ha] at w
      refine hg (wipe σ vs) F2 H2 l' e' e1 g' x d _ R3 r3 ha fun σ2 R4 off ow => ?_
      have hw := wipe_off off hp
      refine ⟨hw, ?_⟩
      have x4 : ExtO (OwnAt σ env1) F1 H1 l1 F2 H2 l' (OwnAt σ2 e1) := ExtO.trans (ExtO.trans x' x3) (ExtO.shrink ow)
      have mk4 : Made C.calm F2 H2 l' (OwnAt σ2 e1) D acc := mk.up (ExtO.trans x3 (ExtO.shrink ow))
      refine ht σ2 F2 H2 l' e1 g' _ R4 (Wp.mono (Wp.bind.mp w) (fun b e2 g2 w F3 H3 l3 R5 x5 => ?_) fun _ _ _ _ w => w.elim)
      have mk5 := mk4.up x5
      cases b with
      | false =>
        dsimp only at w ⊢
        rw [if_neg Bool.false_ne_true] at w ⊢
        exact ⟨F3, l3, wipeE e2 vs, g2, acc, by rw [← hw]; exact R5.wiped vs, by rw [← hw]; exact (x4.trans x5).conv (fun _ h => h) fun a h => (x4.trans x5).ow a h.wiped, ⟨mk5.at_, mk5.nf, mk5.n0, mk5.ns, fun z => mk5.no (by rw [← hw] at z; exact z.wiped)⟩, w⟩
      | true =>
        dsimp only at w ⊢
        rw [if_pos rfl] at w ⊢
        refine he σ2 F3 H3 l3 e2 g2 _ R5 (Wp.mono (Wp.bind.mp w) (fun y e3 g3 w v F4 H4 l4 R6 x6 rv => ?_) fun _ _ _ _ w => w.elim)
        have mk6 := mk5.up x6
        obtain ⟨ws, hD4, rl⟩ := mk6.at_
        have hz := wp_iteR w
        obtain ⟨R7, mk7, x7⟩ := R6.made mk6 hD4 rv
        have x8 := x7 (ExtO.trans x4 (ExtO.trans x5 x6)) hD
        refine ⟨ws, hD4, by rw [rl.length]; exact hz.1, F4, l4, wipeE e3 vs, g3, acc ++ [y], by rw [← hw]; exact R7.wiped vs, by rw [← hw]; exact x8.conv (fun _ h => h) fun a h => x8.ow a h.wiped, ⟨mk7.at_, mk7.nf, mk7.n0, mk7.ns, fun z => mk7.no (by rw [← hw] at z; exact z.wiped)⟩, hz.2⟩
  · have e : i = xs.length := by omega
    subst e
    refine .inl ⟨W1.st F' H' x'.fs R'.sub, ?_⟩
    rw [List.drop_length] at w
    obtain ⟨R9, x9⟩ := R1.back no R'.uncalm x'
    obtain ⟨ws, hD4, rl⟩ := mk.at_
    refine w (V.ref D) F' H' l' R9 (ExtO.trans x1 x9) ⟨D, rfl, ⟨ws, hD4, rl⟩, mk.nf, mk.n0, mk.ns, fun z => nO (x9.ow _ z)⟩ fun a e => ?_
    cases e
    exact none_of_none x1.hd hD
/-! the readings that the data tell by themselves: no context stands in them -/
def tOf (C : DCx) (m : M EV) : TE := fun σ H Q => ∃ F l env g, Rel C σ F H l env g ∧ Wp (m env g) (KE C σ F H l env Q) (KX C σ)
def tdOf (C : DCx) (m : M PyData) : TE := fun σ H Q => ∃ F l env g, Rel C σ F H l env g ∧ Wp (m env g) (KD C σ F H l env Q) (KX C σ)
def ttOf (C : DCx) (m : M Bool) : TT := fun σ H Q => ∃ F l env g, Rel C σ F H l env g ∧ Wp (m env g) (KT C σ F H l env Q) (KX C σ)
def gOf (C : DCx) (p : Pat) : TG := fun v σ H Q => ∃ F l env env' gs d, Rel C σ F H l env gs ∧ Rep C.K F v d ∧ asg p d env = some env' ∧ ∀ σ', Rel C σ' F H l env' gs → Off p.idx σ σ' → (∀ a, OwnAt σ' env' a → OwnAt σ env a) → Q σ' H
section
variable {X : Cx} {C : DCx} {e tg : Expr} {es : List Expr}
theorem DE.pe {m : M EV} (h : DE X C e m) (hK : C.K = X.K) : PE X e (tOf C m) := by
  obtain ⟨t, h1, s⟩ := h.run hK
  exact ⟨fun pins s1 σ H Q I ⟨F, l, env, g, R, w⟩ => h1.run pins s1 σ H Q I (s σ F H l env g Q R w)⟩
theorem DD.pe {m : M PyData} (h : DD X C e m) (hK : C.K = X.K) : PE X e (tdOf C m) := by
  obtain ⟨t, h1, s⟩ := h.run hK
  exact ⟨fun pins s1 σ H Q I ⟨F, l, env, g, R, w⟩ => h1.run pins s1 σ H Q I (s σ F H l env g Q R w)⟩
theorem DTs.pt {m : M Bool} (h : DTs X C es m) (hK : C.K = X.K) : PTs X es (ttOf C m) := by
  obtain ⟨t, h1, s⟩ := h.run hK
  exact ⟨fun pins s1 σ H Q I ⟨F, l, env, g, R, w⟩ => h1.run pins s1 σ H Q I (s σ F H l env g Q R w)⟩
theorem DG.pg {p : Pat} (h : DG X C tg p) (hK : C.K = X.K) : PG X tg (gOf C p) := by
  obtain ⟨t, h1, s⟩ := h.run hK
  exact ⟨fun pins s1 σ H v u Q I r ⟨F, l, env, env', gs, d, R, rd, ha, q⟩ => h1.run pins s1 σ H v u Q I r (s σ F H l env env' gs v d Q R rd ha q)⟩
theorem simG_of {p : Pat} : SimG C (gOf C p) p := fun _ _ _ _ _ _ _ _ _ _ R r a q => ⟨_, _, _, _, _, _, R, r, a, q⟩
theorem simT_of {m : M Bool} : SimT C (ttOf C m) m := fun _ _ _ _ _ _ _ R w => ⟨_, _, _, _, R, w⟩
theorem simD_of {m : M PyData} : SimD C (tdOf C m) m := fun _ _ _ _ _ _ _ R w => ⟨_, _, _, _, R, w⟩
theorem simE_of {m : M EV} : SimE C (tOf C m) m := fun _ _ _ _ _ _ _ R w => ⟨_, _, _, _, R, w⟩
end
theorem de_comp {X : Cx} {C : DCx} {elt tg iter : Expr} {ifs : List Expr} {scope : Scope} {own : List (Str × Nat)} {pos : Pos} {p : Pat} {mi : M (List PyData)} {mt : M Bool} {me : M PyData} (hc : X.calm = true) (hN : X.N.Nodup) (hi : DI X C tg iter mi) (ok : BlkOk X.N X.env.scope scope own)
    (hg : ∀ (s : Shared) (H : Hp) (A : Addr) (cl : List (Str × Addr)) (fp : List Addr), DG (X.blk s H scope (compEnvC scope cl A X.env) fp) C.calm tg p)
    (ht : ∀ (s : Shared) (H : Hp) (A : Addr) (cl : List (Str × Addr)) (fp : List Addr), DTs (X.blk s H scope (compEnvC scope cl A X.env) fp) C.calm ifs mt)
    (he : ∀ (s : Shared) (H : Hp) (A : Addr) (cl : List (Str × Addr)) (fp : List Addr), DD (X.blk s H scope (compEnvC scope cl A X.env) fp) C.calm elt me)
    (hp : (p.idx.all fun i => decide (i ∈ own.map (·.2))) = true) (hs : ∀ x, foldedSetIterable iter X.env x = pure x := by intro _; rfl) :
    DE X C (.ListComp elt [⟨tg, iter, ifs, 0⟩] scope pos) (mComp p (own.map (·.2)) mi mt me) := by
  refine ⟨fun hK => ?_⟩
  obtain ⟨wi, h1, s1⟩ := hi.run hK
  refine ⟨_, pe_lc hc hN h1 ok (fun s H A cl fp => (hg s H A cl fp).pg hK) (fun s H A cl fp => (ht s H A cl fp).pt hK) (fun s H A cl fp => (he s H A cl fp).pe hK) hs, simComp s1 simG_of simT_of simD_of fun i hi => ?_⟩
  exact of_decide_eq_true (List.all_eq_true.mp hp i hi)
end DL
namespace DL
open PySem L2 PySem.W PySem.Calls PySem.SeqAt PyProof.Rows
/-! ### tuples, () among them, can be sorted -/
def isTup1 : PyData → Bool
  | .tuple (_ :: _) => true
  | _ => false
section
variable {A : Around} {s : Shared}
theorem call_tuple_lt {prog : Program} {w : World} {E : Value → Shared → Prop} {Q : Value → Shared → Prop} {l b : Addr} {items items2 : Array Value} {e r : Nat → Bool} (hl : s.heap.IsTuple l items) (hb : s.heap.IsTuple b items2)
    (he : ∀ j (h1 : j < items.size) (h2 : j < items2.size), EqAt A.in1 s items[j] items2[j] (e j)) (hr : ∀ j (h1 : j < items.size) (h2 : j < items2.size), e j = false → RcLt A.in1 s items[j] items2[j] (r j))
    (h : Q (.bool (firstLt e r (decide (items.size < items2.size)) (List.range (min items.size items2.size)))) s) : wpAny (model prog w) A (call (.builtin "tuple.__lt__") [.ref l, .ref b]) Q E s := by
  obtain ⟨⟨cls, dd, data, sl⟩, ho, hc, n, hd⟩ := id hl
  obtain ⟨⟨cls2, dd2, data2, sl2⟩, ho2, hc2, n2, hd2⟩ := id hb
  simp only at hc hd hc2 hd2
  subst hc hd hc2 hd2
  exact call_meets F.slot_tuple_lt ⟨_, ho, rfl⟩ F.entry_tuple_lt (F.args_tuple_lt_2 _ _) (tuple_ltAt l b items items2 n n2 dd dd2 sl sl2 e r) ⟨ho, ho2, he, hr, h⟩
theorem oneLt_tup {prog : Program} {w : World} {E : Value → Shared → Prop} {xs ys : List PyData} {a b : Value} {as bs : List Addr} {Q : Bool → Shared → Prop} (ra : Reads s.heap a (.tuple xs) as) (rb : Reads s.heap b (.tuple ys) bs) (h : alike (.tuple xs) (.tuple ys) = true)
    (hu : A.units + min (PyData.tuple xs).depth (PyData.tuple ys).depth < cLine) (hq : Q (dataLt (.tuple xs) (.tuple ys)) s) : wpAny (model prog w) A (oneLt' true a b) Q E s := by
  have hal : alikeAll xs ys = true := by simpa [alike] using h
  cases ra with
  | @tuple l o vs n _ as₁ h1 h2 h3 h4 =>
    cases rb with
    | @tuple l' o' vs' n' _ bs₁ k1 k2 k3 k4 =>
      have n1 : vs.size = xs.length := by simpa using SeqAt.ReadsAll.length _ _ _ h4
      have n2 : vs'.size = ys.length := by simpa using SeqAt.ReadsAll.length _ _ _ k4
      rw [dataLt_tuple, ← firstLt_toks xs ys hal, ← n1, ← n2] at hq
      rw [oneLt'_eq]
      simp only [if_true]
      refine wpAny_bind (wpAny_cRoomFor (room_here hu) ?_)
      refine wpAny_bind (wpAny_callSpecialIfBound?_slot (T := "tuple") ⟨_, h1, h2⟩ F.slot_tuple_lt (call_tuple_lt (e := pairEq xs ys) (r := fun j => dataLt (xs.getD j .none) (ys.getD j .none)) ⟨_, h1, h2, _, h3⟩ ⟨_, k1, k2, _, k3⟩ (fun j j1 j2 => ?_) (fun j j1 j2 hj => ?_) ?_))
      · have := eqAt_alikeAll xs ys A.in1 s vs.toList vs'.toList _ _ h4 k4 hal (room_in hu) j (by simpa using j1) (by simpa using j2)
        simpa using this
      · have := rcLt_alikeAll xs ys A.in1 s vs.toList vs'.toList _ _ h4 k4 hal (room_in hu) j (by simpa using j1) (by simpa using j2) hj
        simpa using this
      · exact wpAny_truthy_bool hq
theorem tup_firsts {M : Model} {E : Value → Shared → Prop} : ∀ {vs : List Value} {ds : List PyData} {Q : List (Option Value) → Shared → Prop}, EachIs (fun v d => ∃ as, Reads s.heap v d as) vs ds → (∀ d ∈ ds, ∃ xs, d = .tuple xs) →
    (∀ bs : List (Option Value), bs.map Option.isSome = ds.map isTup1 → Q bs s) → wpAny M A (vs.mapM firstOfTuple') Q E s
  | _, _, _, .nil, _, h => by rw [List.mapM_nil]; exact wpAny_pure (h [] rfl)
  | _, _, Q, .cons (b := d) ⟨as, r⟩ t, ht, h => by
    obtain ⟨ys, rfl⟩ := ht d (by simp)
    cases r with
    | @tuple a o xs n _ _ ho hc hd hr =>
      rw [List.mapM_cons]
      refine wpAny_bind ?_
      rw [kas_first_eq]
      refine wpAny_bind (Looks.here (show Looks M s.heap (typeOf (.ref a)) o.cls from (Looks.ld ho).andThen .now) ?_)
      rw [hc, if_neg (by first | decide | simp)]
      refine wpAny_bind (listItems_at ho hd (wpAny_pure ?_))
      refine wpAny_bind (tup_firsts (Q := fun bs s' => wpAny M A (pure (xs[0]? :: bs)) Q E s') t (fun d hd => ht d (by simp [hd])) fun bs hb => wpAny_pure (h _ ?_))
      rw [List.map_cons, List.map_cons, hb]
      refine congrArg (· :: _) ?_
      have hn : xs.size = ys.length := by simpa using SeqAt.ReadsAll.length _ _ _ hr
      cases ys with
      | nil =>
        have : xs = #[] := Array.size_eq_zero_iff.mp hn
        subst this
        rfl
      | cons y ys =>
        have h0 : 0 < xs.size := by rw [hn]; exact Nat.succ_pos _
        rw [Array.getElem?_eq_getElem h0]
        rfl
theorem SortsAt.tups {prog : Program} {w : World} {vs : List Value} {ds : List PyData} (e : EachIs (fun v d => ∃ as, Reads s.heap v d as) vs ds) (hal : AllAlike ds) (ht : ∀ d ∈ ds, ∃ xs, d = .tuple xs) (hu : ∀ d, d ∈ ds → A.units + d.depth < cLine) : SortsAt prog w A s (dataKind s.heap ds) vs := by
  by_cases hone : ∀ d ∈ ds, ∃ x r, d = PyData.tuple (x :: r)
  · exact SortsAt.data e hal (.inl hone) hu
  have room : ∀ {d d' : PyData}, d ∈ ds → A.units + min d.depth d'.depth < cLine := fun {d d'} hd => Nat.lt_of_le_of_lt (Nat.add_le_add_left (Nat.min_le_left _ _) _) (hu d hd)
  have hnot : ds.all isTup1 = false := by
    rw [Bool.eq_false_iff]
    intro h
    refine hone fun d hd => ?_
    have h1 := List.all_eq_true.mp h d hd
    obtain ⟨xs, rfl⟩ := ht d hd
    cases xs with
    | nil => cases h1
    | cons x xs => exact ⟨x, xs, rfl⟩
  have keys : ∀ v, v ∈ vs → ∃ a, (dataKind s.heap ds).keyOf v = some a := fun v hv => by
    obtain ⟨d, hd, as, r⟩ := e.left v hv
    exact ⟨_, dataKind_some hal hd r⟩
  by_cases hf : ∃ d ds', ds = d :: ds' ∧ isTup1 d = true
  · refine ⟨keys, general', ?_, fun h2 E Q hq => ?_⟩
    · intro E x y a b Q ha hb hq
      obtain ⟨d, as, hd, ra, rfl⟩ := dataKind_inv ha
      obtain ⟨d', as', hd', rb, rfl⟩ := dataKind_inv hb
      show wpAny (model prog w) A (oneLt' false x y) Q E s
      obtain ⟨xs, rfl⟩ := ht d hd
      exact oneLt_alike (fun h => by cases h) ra rb (hal _ hd d' hd') (fun h => by cases h) (room hd) hq
    · rw [kat_kind_eq, List.mapM_toArray, map_eq_pure_bind]
      refine wpAny_bind (wpAny_bind (tup_firsts e ht fun bs hb => wpAny_pure ?_))
      have hall : (bs.toArray.all fun x => x.isSome) = false := by
        rw [List.all_toArray]
        have := congrArg (fun l => l.all id) hb
        simp only [List.all_map] at this
        rw [show (bs.all fun x => x.isSome) = bs.all (id ∘ Option.isSome) from rfl, this]
        exact hnot
      rw [if_neg (by rw [hall]; simp)]
      obtain ⟨d, ds', rfl, hd⟩ := hf
      cases bs with
      | nil => cases hb
      | cons b bs =>
        rw [List.map_cons, List.map_cons] at hb
        have hb1 : b.isSome = true := by rw [(List.cons.inj hb).1]; exact hd
        rw [if_pos (by simpa using hb1)]
        exact wpAny_pure hq
  · refine ⟨keys, oneType', ?_, fun h2 E Q hq => ?_⟩
    · intro E x y a b Q ha hb hq
      obtain ⟨d, as, hd, ra, rfl⟩ := dataKind_inv ha
      obtain ⟨d', as', hd', rb, rfl⟩ := dataKind_inv hb
      rw [keyLt'_oneType]
      obtain ⟨xs, rfl⟩ := ht d hd
      obtain ⟨ys, rfl⟩ := ht d' hd'
      exact oneLt_tup ra rb (hal _ hd _ hd') (room hd) hq
    · rw [kat_kind_eq, List.mapM_toArray, map_eq_pure_bind]
      refine wpAny_bind (wpAny_bind (tup_firsts e ht fun bs hb => wpAny_pure ?_))
      have hall : (bs.toArray.all fun x => x.isSome) = false := by
        rw [List.all_toArray]
        have := congrArg (fun l => l.all id) hb
        simp only [List.all_map] at this
        rw [show (bs.all fun x => x.isSome) = bs.all (id ∘ Option.isSome) from rfl, this]
        exact hnot
      rw [if_neg (by rw [hall]; simp)]
      cases vs with
      | nil => exact absurd h2 (by simp)
      | cons v vs =>
      cases e with
      | @cons _ d _ ds' e1 e2 =>
      cases bs with
      | nil => cases hb
      | cons b bs =>
        rw [List.map_cons, List.map_cons] at hb
        have hb1 : b.isSome = false := by
          rw [(List.cons.inj hb).1, Bool.eq_false_iff]
          exact fun h => hf ⟨d, ds', rfl, h⟩
        have hb2 : b = none := by cases b with | none => rfl | some _ => cases hb1
        subst hb2
        rw [if_neg (by simp)]
        rw [oneTypeOnly'_eq, List.mapM_toArray, map_eq_pure_bind]
        have hT : ∀ u ∈ v :: vs, Looks (model prog w) s.heap (typeOf u) (Value.type "tuple") := fun u hu' => by
          obtain ⟨d', hd', as, r⟩ := (EachIs.cons e1 e2).left u hu'
          obtain ⟨xs, rfl⟩ := ht d' hd'
          exact looks_reads r
        refine wpAny_bind (wpAny_bind (wpAny_bind (kas_mapM (r := Value.type "tuple") _ (fun v hv Q' hq => (hT v hv).here hq) (wpAny_pure ?_))))
        have hall2 : ((List.map (fun _ => Value.type "tuple") (v :: vs)).toArray.all fun x => x == Value.type "tuple") = true := by
          simp only [List.all_toArray, List.all_map, List.all_eq_true]
          intro _ _
          rfl
        have h0 : (List.map (fun _ => Value.type "tuple") (v :: vs)).toArray[0]? = some (Value.type "tuple") := by simp
        rw [h0]
        simp only [hall2, if_true]
        exact wpAny_pure (wpAny_pure hq)
end
end DL
namespace DL
open PySem L2
/-! ### sorted of a list or a tuple of data -/
section
open PySem.W PyProof.Rows
variable {prog : Program} {w : World} {A : Around} {E : Value → Shared → Prop} {s : Shared}
/-- a tuple's items, collected -/
theorem collectTuple {l : Addr} {vs : List Value} {Q : List Value → Shared → Prop} (ht : s.heap.IsTuple l vs.toArray) (hz : vs.length ≤ sizeLine)
    (h : Q vs { s with heap := (s.heap.push (seqObj "list" #[] 0)).update s.heap.objs.size (Obj.mapSeq (· ++ vs.toArray)) }) : wpAny (model prog w) A (collect (.ref l)) Q E s := by
  obtain ⟨o, ho, hc, n, hd⟩ := id ht
  have hn : (s.heap.push (seqObj "list" #[] 0)).get? s.heap.objs.size = some (seqObj "list" #[] 0) := Heap.get?_push_size _ rfl
  have ho' : (s.heap.push (seqObj "list" #[] 0)).get? l = some o := Heap.get?_push_of_some _ ho
  unfold collect
  refine wpAny_bind (wpAny_runValue (codeAny_builtin entry_proto_collect' ?_))
  change wpAny _ _ (do again (.builtin "list.__iadd__" ⟨[← newList [], .ref l], []⟩)) _ _ s
  refine wpAny_bind (wpAny_newList (wpAny_pure ⟨Code.quiet_builtin _ (by decide +kernel), codeAny_builtin entry_list_iadd' ?_⟩))
  change wpAny _ _ (Builtin.List.listExtendWith (.ref s.heap.objs.size) (.ref l) (.ref s.heap.objs.size)) _ _ { s with heap := s.heap.push (seqObj "list" #[] 0) }
  unfold Builtin.List.listExtendWith
  refine wpAny_bind (wpAny_typeOf (T := "tuple") ⟨o, ho', hc⟩ ?_)
  rw [if_pos (by simp)]
  refine wpAny_bind (listItems_at ho' hd ?_)
  refine wpAny_bind (listItems_at (xs := #[]) (n := 0) hn rfl ?_)
  rw [if_neg (by simp)]
  refine wpAny_bind (listUpdate_at (xs := #[]) (n := 0) hn rfl ?_ (Nat.zero_le _) (by show (#[] ++ vs.toArray).size ≤ sizeLine + 1; simp only [Array.size_append, List.size_toArray, List.length_nil]; omega))
  refine wpAny_pure ?_
  change wpAny (model prog w) A (do
      let o ← load s.heap.objs.size
      match o.data with
      | .seq xs _ => pure xs.toList
      | _ => unsupported "internal:collect") Q E { s with heap := (s.heap.push (seqObj "list" #[] 0)).update s.heap.objs.size (Obj.mapSeq (· ++ vs.toArray)) }
  refine wpAny_bind (wpAny_load (get?_update_seq hn _) ?_)
  change wpAny _ _ (pure ((#[] : Array Value) ++ vs.toArray).toList) Q E _
  rw [show ((#[] : Array Value) ++ vs.toArray).toList = vs by simp]
  exact wpAny_pure h
theorem sortedCol {κ : PyProof.Rows.KeyKind} {l : Addr} {vs : List Value} {Q : Value → Shared → Prop} (hz : vs.length ≤ sizeLine)
    (hcol : ∀ (A' : Around) (E' : Value → Shared → Prop) (Q' : List Value → Shared → Prop), Q' vs { s with heap := (s.heap.push (seqObj "list" #[] 0)).update s.heap.objs.size (Obj.mapSeq (· ++ vs.toArray)) } → wpAny (model prog w) A' (collect (.ref l)) Q' E' s)
    (S : SortsAt prog w A.in1.in1 { s with heap := sortingHeap (copyHeap s.heap vs) (s.heap.objs.size + 1) vs } κ vs) (h : Q (.ref (s.heap.objs.size + 1)) { s with heap := sortedAll s.heap vs (sortVals κ false vs vs).toArray }) :
    wpAny (model prog w) A (call (.builtin "sorted") [.ref l]) Q E s := by
  refine call_function_entry_kw kind_sorted plain_sorted entry_sorted (args_sorted1 _) ?_
  unfold Builtin.«sorted»
  refine wpAny_bind (m := checkCount "sorted" 1 1 _) (wpAny_pure ?_)
  refine wpAny_bind (hcol _ _ _ ?_)
  refine wpAny_bind (wpAny_newList ?_ hz)
  have sz : ((s.heap.push (seqObj "list" #[] 0)).update s.heap.objs.size (Obj.mapSeq (· ++ vs.toArray))).objs.size = s.heap.objs.size + 1 := by
    rw [Heap.size_update, size_push']
  change wpAny _ _ _ _ _ { s with heap := copyHeap s.heap vs }
  rw [sz]
  refine wpAny_bind (wpAny_holding (wpAny_call_entry_kw slot_list_sort ⟨_, copyHeap_at s.heap vs, rfl⟩ entry_list_sort ?body (args_list_sort _)))
  case body =>
    change wpAny (model prog w) A.in1.in1 (Builtin.«list.sort» ⟨[.ref (s.heap.objs.size + 1)], []⟩) _ _ _
    refine list_sort_vals (s := { s with heap := copyHeap s.heap vs }) (copyHeap_at s.heap vs) S hz ?_
    exact ⟨_, rfl, wpAny_pure ⟨_, rfl, h⟩⟩
end
def sortD (ds : List PyData) : List PyData := ds.mergeSort (PySem.W.dataLe false id)
def isTup : PyData → Bool
  | .tuple _ => true
  | _ => false
def plainKey : PyData → Bool
  | .none => false
  | .tuple _ => false
  | _ => true
def sortOk (ds : List PyData) : Bool := (ds.all fun d => ds.all fun d' => PySem.W.alike d d') && (ds.all isTup || ds.all plainKey) && ds.all fun d => decide (d.depth ≤ 50)
theorem sortOk.alike {ds : List PyData} (h : sortOk ds = true) : PySem.W.AllAlike ds := by
  unfold sortOk at h
  rw [Bool.and_eq_true, Bool.and_eq_true] at h
  intro d hd d' hd'
  exact List.all_eq_true.mp (List.all_eq_true.mp h.1.1 d hd) d' hd'
theorem sortOk.sortable {ds : List PyData} (h : sortOk ds = true) : (∀ d ∈ ds, ∃ xs, d = PyData.tuple xs) ∨ PySem.W.Sortable ds := by
  unfold sortOk at h
  rw [Bool.and_eq_true, Bool.and_eq_true, Bool.or_eq_true] at h
  rcases h.1.2 with q | q
  · refine .inl fun d hd => ?_
    have := List.all_eq_true.mp q d hd
    unfold isTup at this
    split at this
    · exact ⟨_, rfl⟩
    · cases this
  · refine .inr (.inr fun d hd => ?_)
    have := List.all_eq_true.mp q d hd
    unfold plainKey at this
    split at this
    · cases this
    · cases this
    · rename_i h1 h2
      exact ⟨h1, h2⟩
theorem sortsAt_ok {prog : Program} {w : World} {A : Around} {s : Shared} {vs : List Value} {ds : List PyData} (e : PySem.W.EachIs (fun v d => ∃ as, Reads s.heap v d as) vs ds) (h : sortOk ds = true) (hu : ∀ d, d ∈ ds → A.units + d.depth < cLine) : PySem.W.SortsAt prog w A s (PySem.W.dataKind s.heap ds) vs := by
  rcases sortOk.sortable h with q | q
  · exact SortsAt.tups e (sortOk.alike h) q hu
  · exact PySem.W.SortsAt.data e (sortOk.alike h) q hu
theorem sortOk.depth {ds : List PyData} (h : sortOk ds = true) : ∀ d ∈ ds, d.depth ≤ 50 := by
  unfold sortOk at h
  rw [Bool.and_eq_true, Bool.and_eq_true] at h
  exact fun d hd => of_decide_eq_true (List.all_eq_true.mp h.2 d hd)
theorem repL_zip {K : PySem.W.Frag} {F : Hp} {zs : List (V × PyData)} (h : ∀ z ∈ zs, Rep K F z.1 z.2) : RepL K F (zs.map (·.1)) (zs.map (·.2)) := by
  induction zs with
  | nil => exact repL_nil.mpr rfl
  | cons z zs ih => exact repL_cons.mpr ⟨_, _, rfl, h z (by simp), ih fun y hy => h y (by simp [hy])⟩
theorem each_vals {zs : List (V × PyData)} : ∀ {us : List Value}, PySem.W.EachIs (fun u (z : V × PyData) => RelV z.1 u) us zs → Vals (zs.map (·.1)) us := by
  induction zs with
  | nil => intro us h; cases h; exact .nil
  | cons z zs ih =>
    intro us h
    cases h with
    | cons h1 h2 => exact .cons h1 (ih h2)
theorem vals_each {zs : List (V × PyData)} : ∀ {us : List Value}, Vals (zs.map (·.1)) us → PySem.W.EachIs (fun u (z : V × PyData) => RelV z.1 u) us zs := by
  induction zs with
  | nil => intro us h; cases h; exact .nil
  | cons z zs ih =>
    intro us h
    cases h with
    | cons h1 h2 => exact .cons h1 (ih h2)
theorem each_and {α β : Type} {P Q : α → β → Prop} : ∀ {as : List α} {bs : List β}, PySem.W.EachIs P as bs → (∀ a b, a ∈ as → b ∈ bs → P a b → Q a b) → PySem.W.EachIs Q as bs
  | _, _, .nil, _ => .nil
  | _, _, .cons h t, f => .cons (f _ _ (by simp) (by simp) h) (each_and t fun a b ha hb => f a b (by simp [ha]) (by simp [hb]))
def pySorted : List PyData → Option RV
  | [.list ds] => if sortOk ds then some (.fr (.list (sortD ds))) else none
  | [.tuple ds] => if sortOk ds then some (.fr (.list (sortD ds))) else none
  | _ => none
section
variable {X : Cx}
theorem sorted_core {pins : List (Addr × Obj)} {s : Shared} {σ : L2.St} {F H : Hp} {Q : VK} {l : Addr} {its : List Value} {vs : List V} {ds : List PyData} (hu : X.A.units + 64 < cLine) (I : Inv X pins σ H s) (hs : Same F H) (rv : Vals vs its) (rl : RepL X.K F vs ds)
    (hz : vs.length ≤ sizeLine) (ok : sortOk ds = true)
    (hcol : ∀ (A' : Around) (E' : Value → Shared → Prop) (Q' : List Value → Shared → Prop), Q' its { s with heap := (s.heap.push (PyProof.Rows.seqObj "list" #[] 0)).update s.heap.objs.size (Obj.mapSeq (· ++ its.toArray)) } → wpAny (model X.prog X.w) A' (collect (.ref l)) Q' E' s)
    (hq : ResK X.K F H Q (.fr (.list (sortD ds)))) : wpAny (model X.prog X.w) X.A (call (.builtin "sorted") [.ref l]) (EP X pins σ Q) X.xe s := by
  have hl := rl.length
  have hzip : ∀ z ∈ vs.zip ds, Rep X.K F z.1 z.2 := by
    clear rv hz hcol hq ok I hs
    induction ds generalizing vs with
    | nil => intro z hz; simp at hz
    | cons d ds ih =>
      obtain ⟨v, r, rfl, r1, r2⟩ := repL_cons.mp rl
      intro z hz
      rw [List.zip_cons_cons] at hz
      rcases List.mem_cons.mp hz with q | q
      · subst q; exact r1
      · exact ih r2 (by simpa using hl) z q
  have e1 : (vs.zip ds).map (·.1) = vs := List.map_fst_zip (Nat.le_of_eq hl)
  have e2 : (vs.zip ds).map (·.2) = ds := List.map_snd_zip (Nat.le_of_eq hl.symm)
  have each : PySem.W.EachIs (fun u (z : V × PyData) => RelV z.1 u ∧ Rep X.K F z.1 z.2) its (vs.zip ds) := each_and (vals_each (by rw [e1]; exact rv)) fun a b _ hb h => ⟨h, hzip b hb⟩
  have er : PySem.W.EachIs (fun u (z : V × PyData) => ∃ as, Reads s.heap u z.2 as) its (vs.zip ds) := each.mono fun u z h => Rep.reads I hs z.2 z.1 u h.2 h.1
  have er' : PySem.W.EachIs (fun v (b : V × PyData) => ∃ as, Reads (PySem.W.sortingHeap (PySem.W.copyHeap s.heap its) (s.heap.objs.size + 1) its) v b.2 as) its (vs.zip ds) := er.mono fun _ _ ⟨as, r⟩ => ⟨as, PyProof.Rows.Reads.keeps (fun _ _ => PySem.W.sorting_copy_old) r⟩
  refine sortedCol (by rw [← rv.length]; exact hz) hcol (sortsAt_ok (s := { s with heap := PySem.W.sortingHeap (PySem.W.copyHeap s.heap its) (s.heap.objs.size + 1) its }) (ds := ds) ?_ ok fun d hd => ?_) ?_
  · have := PySem.W.each_map (R := fun v d => ∃ as, Reads (PySem.W.sortingHeap (PySem.W.copyHeap s.heap its) (s.heap.objs.size + 1) its) v d as) (fun z : V × PyData => z.2) er'
    rw [e2] at this
    exact this
  · have := sortOk.depth ok d hd
    show X.A.in1.in1.units + d.depth < cLine
    show X.A.units + 1 + 1 + d.depth < cLine
    omega
  · have hd := PySem.W.sortVals_data (h' := PySem.W.sortingHeap (PySem.W.copyHeap s.heap its) (s.heap.objs.size + 1) its) (enc := fun z : V × PyData => z.2) false each er' (by rw [e2]; exact (sortOk.alike ok))
    rw [e2] at hd
    have hm : ((vs.zip ds).mergeSort (PySem.W.dataLe false fun z : V × PyData => z.2)).map (·.2) = sortD ds := by
      have := PySem.W.sort_maps (r := PySem.W.dataLe false fun z : V × PyData => z.2) (s := PySem.W.dataLe false (id : PyData → PyData)) (fun z : V × PyData => z.2) (l := vs.zip ds) fun a _ b _ => rfl
      rw [this, e2]
      rfl
    obtain ⟨ep, he⟩ := PyProof.Rows.sortedAll_at s.heap its (PySem.W.sortVals (PySem.W.dataKind (PySem.W.sortingHeap (PySem.W.copyHeap s.heap its) (s.heap.objs.size + 1) its) ds) false its its).toArray
    have hv : Vals (((vs.zip ds).mergeSort (PySem.W.dataLe false fun z : V × PyData => z.2)).map (·.1)) (PySem.W.sortVals (PySem.W.dataKind (PySem.W.sortingHeap (PySem.W.copyHeap s.heap its) (s.heap.objs.size + 1) its) ds) false its its) := each_vals (hd.mono fun _ _ h => h.1)
    have hr : RepL X.K F (((vs.zip ds).mergeSort (PySem.W.dataLe false fun z : V × PyData => z.2)).map (·.1)) (sortD ds) := by
      rw [← hm]
      exact repL_zip fun z hz => hzip z ((List.mergeSort_perm _ _).mem_iff.mp hz)
    have hlen : (((vs.zip ds).mergeSort (PySem.W.dataLe false fun z : V × PyData => z.2)).map (·.1)).length ≤ sizeLine := by
      rw [List.length_map, (List.mergeSort_perm _ _).length_eq, List.length_zip, hl, Nat.min_self, ← hl]
      exact hz
    exact ⟨.ref _, upd H (s.heap.objs.size + 1) (.lst _), I.laid (t' := s.toks) (fun _ _ => PyProof.Rows.sortedAll_old) (Nat.le_succ _) ⟨hlen, _, ep, hv, he⟩, rfl, hq.lst hs (I.hok.fresh (Nat.le_succ _)) hr⟩
theorem calld_sorted (hu : X.A.units + 64 < cLine) : CallD X (.builtin "sorted") pySorted := by
  refine calld_of ?_
  intro pins s σ H xs us Q I r h
  obtain ⟨F, ds, ev, hs, hb, hg, hq⟩ := h
  unfold pySorted at hg
  split at hg
  · rename_i es
    obtain ⟨ok, rfl⟩ := if_some hg
    cases hb with
    | cons b1 b2 =>
      cases b2
      obtain ⟨a, vs, rfl, q, rl⟩ := b1.seq hs
      rw [Vals.ref1 r]
      obtain ⟨its, rv, p, hz⟩ := I.list (SqL.of q)
      exact sorted_core hu I hs rv rl hz ok (fun A' E' Q' h => PyProof.Rows.collect_list p.isList h (by rw [← rv.length]; exact hz)) hq
  · rename_i es
    obtain ⟨ok, rfl⟩ := if_some hg
    cases hb with
    | cons b1 b2 =>
      cases b2
      obtain ⟨a, vs, rfl, q, rl⟩ := b1.tup hs
      rw [Vals.ref1 r]
      obtain ⟨its, rv, p, hz⟩ := I.tuple q
      exact sorted_core hu I hs rv rl hz ok (fun A' E' Q' h => collectTuple (show s.heap.IsTuple a its.toArray from p) (by rw [← rv.length]; exact hz) h) hq
  · cases hg
end
end DL
namespace DL
open PySem L2
/-! ### built-ins by data -/
def oneI (i : Int) : RV := .d (.int i)
def pyLen : List PyData → Option RV
  | [.list ds] => some (oneI ds.length)
  | [.tuple ds] => some (oneI ds.length)
  | [.str z] => if z.length ≤ sizeLine then some (oneI z.length) else none
  | _ => none
def pyAbs : List PyData → Option RV
  | [.int i] => some (oneI (if i < 0 then -i else i))
  | _ => none
def pyInt : List PyData → Option RV
  | [.int i] => some (oneI i)
  | [.bool b] => some (oneI (if b then 1 else 0))
  | _ => none
def pyBool : List PyData → Option RV
  | [.int i] => some (.d (.bool (i != 0)))
  | [.bool b] => some (.d (.bool b))
  | _ => none
def pyMax2 : List PyData → Option RV
  | [.int i, .int j] => some (oneI (if j > i then j else i))
  | _ => none
def pyMin2 : List PyData → Option RV
  | [.int i, .int j] => some (oneI (if j < i then j else i))
  | _ => none
def pyListOf : List PyData → Option RV
  | [.list ds] => some (.fr (.list ds))
  | [.tuple ds] => some (.fr (.list ds))
  | _ => none
def pyTupOf : List PyData → Option RV
  | [.list ds] => some (.d (.tuple ds))
  | [.tuple ds] => some (.d (.tuple ds))
  | _ => none
def boolsOf : List PyData → Option (List Bool)
  | [] => some []
  | .bool b :: r => (boolsOf r).map (b :: ·)
  | _ :: _ => none
def intsOf : List PyData → Option (List Int)
  | [] => some []
  | .int b :: r => (intsOf r).map (b :: ·)
  | _ :: _ => none
theorem boolsOf_eq : ∀ {ds : List PyData} {bs : List Bool}, boolsOf ds = some bs → ds = bs.map .bool
  | [], _, h => by cases h; rfl
  | d :: ds, bs, h => by
    cases d with
    | bool b =>
      cases q : boolsOf ds with
      | none => simp [boolsOf, q] at h
      | some es =>
        simp [boolsOf, q] at h
        subst h
        rw [boolsOf_eq q]; rfl
    | _ => simp [boolsOf] at h
theorem intsOf_eq : ∀ {ds : List PyData} {bs : List Int}, intsOf ds = some bs → ds = bs.map .int
  | [], _, h => by cases h; rfl
  | d :: ds, bs, h => by
    cases d with
    | int b =>
      cases q : intsOf ds with
      | none => simp [intsOf, q] at h
      | some es =>
        simp [intsOf, q] at h
        subst h
        rw [intsOf_eq q]; rfl
    | _ => simp [intsOf] at h
theorem intsOf_map : ∀ ns : List Int, intsOf (ns.map .int) = some ns
  | [] => rfl
  | n :: ns => by simp [intsOf, intsOf_map ns]
theorem boolsOf_map : ∀ ns : List Bool, boolsOf (ns.map .bool) = some ns
  | [] => rfl
  | n :: ns => by simp [boolsOf, boolsOf_map ns]
theorem repL_bools_of {K : PySem.W.Frag} {F : Hp} : ∀ {ns : List Bool} {vs : List V}, RepL K F vs (ns.map .bool) → vs = ns.map V.bl
  | [], vs, h => repL_nil.mp h
  | n :: ns, vs, h => by
    obtain ⟨v, r, rfl, q, t⟩ := repL_cons.mp h
    rw [rep_bool.mp q, repL_bools_of t]
    rfl
def pyAll : List PyData → Option RV
  | [.list ds] => (boolsOf ds).map fun bs => .d (.bool (bs.all id))
  | _ => none
def pyAny : List PyData → Option RV
  | [.list ds] => (boolsOf ds).map fun bs => .d (.bool (bs.any id))
  | _ => none
def pySum : List PyData → Option RV
  | [.list ds] => (intsOf ds).map fun ns => oneI ns.sum
  | _ => none
def maxI : List Int → Option Int
  | [] => none
  | n :: ns => some (ns.foldl max n)
def minI : List Int → Option Int
  | [] => none
  | n :: ns => some (ns.foldl min n)
theorem foldl_max : ∀ (ns : List Int) (n : Int), ns.foldl max n ∈ n :: ns ∧ ∀ y ∈ n :: ns, y ≤ ns.foldl max n
  | [], n => by simp
  | m :: ns, n => by
    obtain ⟨h1, h2⟩ := foldl_max ns (max n m)
    rw [List.foldl_cons]
    refine ⟨?_, fun y hy => ?_⟩
    · rcases List.mem_cons.mp h1 with e | e
      · rw [e]
        by_cases q : n ≤ m
        · rw [Int.max_eq_right q]; simp
        · rw [Int.max_eq_left (by omega)]; simp
      · simp [e]
    · have h3 := h2 (max n m) (by simp)
      have h4 := Int.le_max_left n m
      have h5 := Int.le_max_right n m
      rcases List.mem_cons.mp hy with e | e
      · omega
      · rcases List.mem_cons.mp e with e | e
        · omega
        · exact h2 y (by simp [e])
theorem foldl_min : ∀ (ns : List Int) (n : Int), ns.foldl min n ∈ n :: ns ∧ ∀ y ∈ n :: ns, ns.foldl min n ≤ y
  | [], n => by simp
  | m :: ns, n => by
    obtain ⟨h1, h2⟩ := foldl_min ns (min n m)
    rw [List.foldl_cons]
    refine ⟨?_, fun y hy => ?_⟩
    · rcases List.mem_cons.mp h1 with e | e
      · rw [e]
        by_cases q : n ≤ m
        · rw [Int.min_eq_left q]; simp
        · rw [Int.min_eq_right (by omega)]; simp
      · simp [e]
    · have h3 := h2 (min n m) (by simp)
      have h4 := Int.min_le_left n m
      have h5 := Int.min_le_right n m
      rcases List.mem_cons.mp hy with e | e
      · omega
      · rcases List.mem_cons.mp e with e | e
        · omega
        · exact h2 y (by simp [e])
def pyMax : List PyData → Option RV
  | [.list ds] => match intsOf ds with
    | some ns => (maxI ns).map oneI
    | none => none
  | _ => none
def pyMin : List PyData → Option RV
  | [.list ds] => match intsOf ds with
    | some ns => (minI ns).map oneI
    | none => none
  | _ => none
section
variable {X : Cx}
theorem calld_len : CallD X (.builtin "len") pyLen := by
  refine ⟨_, call_len, fun F H vs xs Q ev hs hb hg hq => ?_⟩
  unfold pyLen at hg
  split at hg
  · cases hg
    cases hb with | cons b1 b2 => cases b2; obtain ⟨a, us, rfl, q, r⟩ := b1.seq hs; exact ⟨_, _, rfl, .inl ⟨us, SqL.of q, rfl⟩, hq.val hs (by rw [r.length]; exact rep_int.mpr rfl)⟩
  · cases hg
    cases hb with | cons b1 b2 => cases b2; obtain ⟨a, us, rfl, q, r⟩ := b1.tup hs; exact ⟨_, _, rfl, .inr ⟨us, q, rfl⟩, hq.val hs (by rw [r.length]; exact rep_int.mpr rfl)⟩
  · rename_i z
    by_cases h1 : z.length ≤ sizeLine
    · rw [if_pos h1] at hg
      cases hg
      cases hb with | cons b1 b2 => cases b2; rw [b1.str]; exact ⟨_, _, rfl, ⟨h1, rfl⟩, hq.val hs (rep_int.mpr rfl)⟩
    · rw [if_neg h1] at hg
      cases hg
  · cases hg
theorem calld_abs : CallD X (.builtin "abs") pyAbs := by
  refine ⟨_, call_abs, fun F H vs xs Q ev hs hb hg hq => ?_⟩
  unfold pyAbs at hg
  split at hg
  · cases hg
    cases hb with | cons b1 b2 => cases b2; rw [b1.int]; exact ⟨_, rfl, hq.val hs (rep_int.mpr rfl)⟩
  · cases hg
theorem calld_int : CallD X (.type "int") pyInt := by
  refine ⟨_, call_int1, fun F H vs xs Q ev hs hb hg hq => ?_⟩
  unfold pyInt at hg
  split at hg
  · cases hg
    cases hb with | cons b1 b2 => cases b2; rw [b1.int]; exact .inl ⟨_, rfl, hq.val hs (rep_int.mpr rfl)⟩
  · cases hg
    cases hb with | cons b1 b2 => cases b2; rw [b1.bool]; exact .inr ⟨_, rfl, hq.val hs (rep_int.mpr rfl)⟩
  · cases hg
theorem calld_bool : CallD X (.type "bool") pyBool := by
  refine ⟨_, call_bool1, fun F H vs xs Q ev hs hb hg hq => ?_⟩
  unfold pyBool at hg
  split at hg
  · cases hg
    cases hb with | cons b1 b2 => cases b2; rw [b1.int]; exact .inl ⟨_, rfl, hq.val hs (rep_bool.mpr rfl)⟩
  · cases hg
    cases hb with | cons b1 b2 => cases b2; rw [b1.bool]; exact .inr ⟨_, rfl, hq.val hs (rep_bool.mpr rfl)⟩
  · cases hg
theorem calld_max2 (hc : X.calm = true) : CallD X (.builtin "max") pyMax2 := by
  refine ⟨_, call_max2 hc, fun F H vs xs Q ev hs hb hg hq => ?_⟩
  unfold pyMax2 at hg
  split at hg
  · cases hg
    cases hb with | cons b1 b2 => cases b2 with | cons b2 b3 => cases b3; rw [b1.int, b2.int]; exact ⟨_, _, rfl, hq.val hs (rep_int.mpr rfl)⟩
  · cases hg
theorem calld_min2 (hc : X.calm = true) : CallD X (.builtin "min") pyMin2 := by
  refine ⟨_, call_min2 hc, fun F H vs xs Q ev hs hb hg hq => ?_⟩
  unfold pyMin2 at hg
  split at hg
  · cases hg
    cases hb with | cons b1 b2 => cases b2 with | cons b2 b3 => cases b3; rw [b1.int, b2.int]; exact ⟨_, _, rfl, hq.val hs (rep_int.mpr rfl)⟩
  · cases hg
theorem calld_list : CallD X (.type "list") pyListOf := by
  refine ⟨_, call_list_of, fun F H vs xs Q ev hs hb hg hq => ?_⟩
  unfold pyListOf at hg
  split at hg
  · cases hg
    cases hb with | cons b1 b2 => cases b2; obtain ⟨a, us, rfl, q, r⟩ := b1.seq hs; exact ⟨_, us, rfl, .inl (SqL.of q), fun l hl => hq.lst hs hl r⟩
  · cases hg
    cases hb with | cons b1 b2 => cases b2; obtain ⟨a, us, rfl, q, r⟩ := b1.tup hs; exact ⟨_, us, rfl, .inr q, fun l hl => hq.lst hs hl r⟩
  · cases hg
theorem calld_tuple : CallD X (.type "tuple") pyTupOf := by
  refine ⟨_, call_tuple_of, fun F H vs xs Q ev hs hb hg hq => ?_⟩
  unfold pyTupOf at hg
  split at hg
  · cases hg
    cases hb with | cons b1 b2 => cases b2; obtain ⟨a, us, rfl, q, r⟩ := b1.seq hs; exact ⟨_, us, rfl, .inl ⟨SqL.of q, fun l hl => hq.tup hs hl r⟩⟩
  · cases hg
    cases hb with
    | cons b1 b2 =>
      cases b2
      rcases b1 with b1 | ⟨a, _, o⟩
      · obtain ⟨a, us, rfl, q, r⟩ := rep_tup.mp b1
        exact ⟨_, us, rfl, .inr ⟨SqT.up hs q, hq.val hs b1⟩⟩
      · exact o.elim
  · cases hg
theorem calld_all (hc : X.calm = true) : CallD X (.builtin "all") pyAll := by
  refine ⟨_, cr_all hc, fun F H vs xs Q ev hs hb hg hq => ?_⟩
  unfold pyAll at hg
  split at hg
  · obtain ⟨bs, h1, rfl⟩ := Option.map_eq_some_iff.mp hg
    cases hb with
    | cons b1 b2 =>
      cases b2
      rw [boolsOf_eq h1] at b1
      obtain ⟨a, us, rfl, q, r⟩ := b1.seq hs
      rw [repL_bools_of r] at q
      exact ⟨_, bs, rfl, SqL.of q, hq.val hs (rep_bool.mpr rfl)⟩
  · cases hg
theorem calld_any (hc : X.calm = true) : CallD X (.builtin "any") pyAny := by
  refine ⟨_, cr_any hc, fun F H vs xs Q ev hs hb hg hq => ?_⟩
  unfold pyAny at hg
  split at hg
  · obtain ⟨bs, h1, rfl⟩ := Option.map_eq_some_iff.mp hg
    cases hb with
    | cons b1 b2 =>
      cases b2
      rw [boolsOf_eq h1] at b1
      obtain ⟨a, us, rfl, q, r⟩ := b1.seq hs
      rw [repL_bools_of r] at q
      exact ⟨_, bs, rfl, SqL.of q, hq.val hs (rep_bool.mpr rfl)⟩
  · cases hg
theorem calld_sum (hc : X.calm = true) : CallD X (.builtin "sum") pySum := by
  refine ⟨_, cr_sum hc, fun F H vs xs Q ev hs hb hg hq => ?_⟩
  unfold pySum at hg
  split at hg
  · obtain ⟨bs, h1, rfl⟩ := Option.map_eq_some_iff.mp hg
    cases hb with
    | cons b1 b2 =>
      cases b2
      rw [intsOf_eq h1] at b1
      obtain ⟨a, us, rfl, q, r⟩ := b1.seq hs
      rw [repL_ints_of r] at q
      exact ⟨_, bs, rfl, SqL.of q, hq.val hs (rep_int.mpr rfl)⟩
  · cases hg
theorem calld_max (hc : X.calm = true) : CallD X (.builtin "max") pyMax := by
  refine ⟨_, cr_max hc, fun F H vs xs Q ev hs hb hg hq => ?_⟩
  unfold pyMax at hg
  split at hg
  · split at hg
    · rename_i ns h1
      obtain ⟨m, h2, rfl⟩ := Option.map_eq_some_iff.mp hg
      cases hb with
      | cons b1 b2 =>
        cases b2
        rw [intsOf_eq h1] at b1
        obtain ⟨a, us, rfl, q, r⟩ := b1.seq hs
        rw [repL_ints_of r] at q
        cases ns with
        | nil => cases h2
        | cons n ns =>
          cases h2
          obtain ⟨h3, h4⟩ := foldl_max ns n
          refine ⟨_, n :: ns, rfl, SqL.of q, Nat.succ_pos _, fun m hm hle => hq.val hs (rep_int.mpr ?_)⟩
          have z1 := h4 m hm
          have z2 := hle _ h3
          rw [Int.le_antisymm z1 z2]
    · cases hg
  · cases hg
theorem calld_min (hc : X.calm = true) : CallD X (.builtin "min") pyMin := by
  refine ⟨_, cr_min hc, fun F H vs xs Q ev hs hb hg hq => ?_⟩
  unfold pyMin at hg
  split at hg
  · split at hg
    · rename_i ns h1
      obtain ⟨m, h2, rfl⟩ := Option.map_eq_some_iff.mp hg
      cases hb with
      | cons b1 b2 =>
        cases b2
        rw [intsOf_eq h1] at b1
        obtain ⟨a, us, rfl, q, r⟩ := b1.seq hs
        rw [repL_ints_of r] at q
        cases ns with
        | nil => cases h2
        | cons n ns =>
          cases h2
          obtain ⟨h3, h4⟩ := foldl_min ns n
          refine ⟨_, n :: ns, rfl, SqL.of q, Nat.succ_pos _, fun m hm hle => hq.val hs (rep_int.mpr ?_)⟩
          have z1 := h4 m hm
          have z2 := hle _ h3
          rw [Int.le_antisymm z2 z1]
    · cases hg
  · cases hg
end
/-! ### isinstance -/
def tyName : PyData → String
  | .none => "NoneType"
  | .bool _ => "bool"
  | .int _ => "int"
  | .str _ => "str"
  | .list _ => "list"
  | .tuple _ => "tuple"
  | .dict _ => "dict"
def isiD (T : String) (d : PyData) : Bool := tyName d == T || (T == "int" && tyName d == "bool")
theorem tyx_of {K : PySem.W.Frag} {F H : Hp} {v : V} {d : PyData} (hs : Same F H) (h : Bor K F H v d) : TyX K H v (.type (tyName d)) := by
  cases d with
  | none => rw [h.none]; exact .base .non
  | bool b => rw [h.bool]; exact .base (.bl b)
  | int i => rw [h.int]; exact .base (.int i)
  | str z => rw [h.str]; exact .base (.str z)
  | list ds => obtain ⟨a, us, rfl, q, r⟩ := h.seq hs; exact .base (.lst q)
  | tuple ds =>
    obtain ⟨a, us, rfl, q, r⟩ := h.tup hs
    rcases q with (q | ⟨o, q⟩) | ⟨o, its, n, q, hc, _⟩
    · exact .base (.tup q)
    · exact .fTuple q
    · exact .kTuple q hc
  | dict kvs =>
    rcases h with h | ⟨a, rfl, kv, q, r⟩
    · obtain ⟨a, kv, rfl, q, r⟩ := rep_dict.mp h
      exact .base (.dK (hs _ _ q))
    · exact .base (.dK q)
/-- the answers that the library's table gives -/
def IsiOk (T : String) : Prop := kitB "NoneType" T = some (T == "NoneType" || (T == "int" && false)) ∧ kitB "bool" T = some (T == "bool" || T == "int") ∧ kitB "int" T = some (T == "int") ∧ kitB "str" T = some (T == "str") ∧ kitB "list" T = some (T == "list") ∧ kitB "tuple" T = some (T == "tuple") ∧ kitB "dict" T = some (T == "dict")
theorem isi_int : IsiOk "int" := ⟨by decide +kernel, by decide +kernel, by decide +kernel, by decide +kernel, by decide +kernel, by decide +kernel, by decide +kernel⟩
theorem isi_bool : IsiOk "bool" := ⟨by decide +kernel, by decide +kernel, by decide +kernel, by decide +kernel, by decide +kernel, by decide +kernel, by decide +kernel⟩
theorem isi_str : IsiOk "str" := ⟨by decide +kernel, by decide +kernel, by decide +kernel, by decide +kernel, by decide +kernel, by decide +kernel, by decide +kernel⟩
theorem isi_tuple : IsiOk "tuple" := ⟨by decide +kernel, by decide +kernel, by decide +kernel, by decide +kernel, by decide +kernel, by decide +kernel, by decide +kernel⟩
theorem isi_list : IsiOk "list" := ⟨by decide +kernel, by decide +kernel, by decide +kernel, by decide +kernel, by decide +kernel, by decide +kernel, by decide +kernel⟩
def mIsi (T : String) (ma : M EV) : M EV := ma.bind fun a => fun env g =>
  match look env a with
  | some x => .ok (.d (.bool (isiD T x))) env g
  | _ => .bad
theorem kit_of_ok {K : PySem.W.Frag} {T : String} (h : IsiOk T) (d : PyData) : PySem.W.kitOne K (.type (tyName d)) (.type T) = some (isiD T d) := by
  obtain ⟨h1, h2, h3, h4, h5, h6, h7⟩ := h
  cases d with
  | none => refine kit_ty (h1.trans ?_); simp [isiD, tyName, eq_comm, BEq.comm]
  | bool b => refine kit_ty (h2.trans ?_); simp [isiD, tyName, BEq.comm]
  | int i => refine kit_ty (h3.trans ?_); simp [isiD, tyName, BEq.comm]
  | str z => refine kit_ty (h4.trans ?_); simp [isiD, tyName, BEq.comm]
  | list ds => refine kit_ty (h5.trans ?_); simp [isiD, tyName, BEq.comm]
  | tuple ds => refine kit_ty (h6.trans ?_); simp [isiD, tyName, BEq.comm]
  | dict kvs => refine kit_ty (h7.trans ?_); simp [isiD, tyName, BEq.comm]
section
variable {X : Cx} {C : DCx} {e : Expr} {es : List Expr} {pos : Pos}
theorem de_isi {T : String} {x : Str} {p p2 : Pos} {m : M EV} (ok : IsiOk T) (hg : Gl X "isinstance") (hm : X.mg "isinstance" = none) (hgT : Gl X x) (hmT : X.mg x = none) (hvT : bootBuiltins x = some (.type T)) (he : DE X C e m) (hnT : x ≠ "__name__" := by decide) (hdT : (x == ("__debug__" : Str)) = false := by decide)
    (hs : starEach [e, .Name x p2] X.env = (false, eval e X.env) :: starEach [.Name x p2] X.env := by rfl) (hs2 : starEach [.Name x p2] X.env = (false, eval (.Name x p2) X.env) :: starEach [] X.env := by rfl) (hpl : (backTo pos (starEach [.Name x p2] X.env)).any (·.1) = false := by rfl) :
    DE X C (.Call (.Name "isinstance" p) [e, .Name x p2] [] pos) (mIsi T m) := by
  refine ⟨fun hK => ?_⟩
  obtain ⟨t, ht, s⟩ := he.run hK
  have h2 : PA X [.Name x p2] (tCons (tC (.ty T)) tNil) := pa_cons (pe_bltn hgT hmT hvT rfl hnT hdT) pa_nil hs2
  refine ⟨_, pe_callB call_isi hg hm (by decide +kernel) (pa_cons ht h2 hs) (by decide) (by decide) hs hpl, fun σ F H l env g Q R w => ?_⟩
  refine s σ F H l env g _ R (Wp.mono (Wp.bind.mp w) (fun a env1 g1 w v F1 H1 l1 R1 x1 r1 f1 => ?_) fun _ _ _ _ w => w)
  split at w
  · rename_i y e1
    exact ⟨v, .ty T, _, _, _, rfl, .ty T, by rw [← hK]; exact tyx_of R1.sub (r1.look R1 e1), kit_of_ok ok y, w _ F1 H1 l1 R1 x1 RepEV.ofb trivial⟩
  · exact w.elim
end
end DL
namespace DL
open PySem L2
/-! ### a[i] -/
def pyIx : PyData → PyData → Option RV
  | .list ds, .int i => (atI ds i).map .d
  | .tuple ds, .int i => (atI ds i).map .d
  | .str z, .int i => if z.length ≤ sizeLine then (atI z.cps.toList i).map fun c => .d (.str ⟨#[c]⟩) else none
  | _, _ => none
theorem RepL.atI {K : PySem.W.Frag} {F : Hp} {ds : List PyData} {vs : List V} {i : Int} {d : PyData} (h : RepL K F vs ds) (e : L2.atI ds i = some d) : ∃ v, L2.atI vs i = some v ∧ Rep K F v d := by
  unfold L2.atI at e ⊢
  rw [h.length]
  cases q : ixN ds.length i with
  | none => rw [q] at e; cases e
  | some j =>
    rw [q] at e
    exact RepL.get' (i := j) h e
section
variable {X : Cx} {C : DCx} {e : Expr} {es : List Expr} {pos : Pos}
theorem de_ix {a b : Expr} {ma mb : M EV} (ha : DE X C a ma) (hb : DE X C b mb) (hp : PlainIx b := by intro _ _; rfl) : DE X C (.Subscript a b pos) (mBin pyIx ma mb) := by
  refine ⟨fun hK => ?_⟩
  obtain ⟨ta, h1, s1⟩ := ha.run hK
  obtain ⟨tb, h2, s2⟩ := hb.run hK
  refine ⟨_, pe_ix ix_seq h1 h2 hp, simBin s1 s2 ?_⟩
  rw [hK]
  intro F H v w x y Q ev hs hx hy hg hq
  unfold pyIx at hg
  split at hg
  · rename_i ds i
    obtain ⟨d, h3, rfl⟩ := Option.map_eq_some_iff.mp hg
    obtain ⟨a, us, rfl, q, r⟩ := hx.seq hs
    obtain ⟨u, h4, h5⟩ := r.atI h3
    rw [hy.int]
    exact .inl ⟨_, us, i, u, rfl, rfl, SqL.of q, h4, hq.val hs h5⟩
  · rename_i ds i
    obtain ⟨d, h3, rfl⟩ := Option.map_eq_some_iff.mp hg
    obtain ⟨a, us, rfl, q, r⟩ := hx.tup hs
    obtain ⟨u, h4, h5⟩ := r.atI h3
    rw [hy.int]
    exact .inr (.inl ⟨_, us, i, u, rfl, rfl, q, h4, hq.val hs h5⟩)
  · rename_i z i
    by_cases h1 : z.length ≤ sizeLine
    · rw [if_pos h1] at hg
      obtain ⟨c, h3, rfl⟩ := Option.map_eq_some_iff.mp hg
      rw [hy.int, hx.str]
      exact .inr (.inr ⟨z, i, c, rfl, rfl, h1, h3, hq.val hs (rep_str.mpr rfl)⟩)
    · rw [if_neg h1] at hg
      cases hg
  · cases hg
/-! ### a[lo:hi] -/
/-- a part of a slice -/
def SimO (C : DCx) (t : TO) (m : M (Option Int)) : Prop := ∀ (σ : L2.St) (F H : Hp) (l : Loc) (env : Env') (g : G) (Q : Option Int → Hp → Prop), Rel C σ F H l env g →
  Wp (m env g) (fun o env' g' => ∀ F' H' l', Rel C σ F' H' l' env' g' → Ext σ F H l env F' H' l' env' → Q o H') (KX C σ) → t σ H Q
structure DO (X : Cx) (C : DCx) (e : Option Expr) (m : M (Option Int)) : Prop where
  run : C.K = X.K → ∃ t, PO X e t ∧ SimO C t m
def mPart : PyData → M (Option Int)
  | .int i => M.pure (some i)
  | _ => M.bad
theorem do_none : DO X C none (M.pure none) := ⟨fun _ => ⟨_, po_none, fun σ F H l env g Q R w => w F H l R .refl⟩⟩
theorem do_some {m : M PyData} (h : DD X C e m) : DO X C (some e) (m.bind mPart) := by
  refine ⟨fun hK => ?_⟩
  obtain ⟨t, ht, s⟩ := h.run hK
  refine ⟨_, po_some ht, fun σ F H l env g Q R w => s σ F H l env g _ R (Wp.mono (Wp.bind.mp w) (fun d env1 g1 w v F1 H1 l1 R1 x1 r1 => ?_) fun _ _ _ _ w => w)⟩
  cases d with
  | int i => exact ⟨i, rep_int.mp r1, w F1 H1 l1 R1 x1⟩
  | _ => exact w.elim
def cutD (ds : List PyData) (lo hi : Option Int) : List PyData := (ds.drop (HT.sIx ds.length 0 lo)).take (HT.sIx ds.length ds.length hi - HT.sIx ds.length 0 lo)
theorem RepL.cut {K : PySem.W.Frag} {F : Hp} {ds : List PyData} {vs : List V} (h : RepL K F vs ds) (lo hi : Option Int) : RepL K F (cutV vs lo hi) (cutD ds lo hi) := by
  unfold cutV cutD
  rw [h.length]
  exact RepL.take _ (RepL.drop _ h)
def pySl (x : PyData) (lo hi : Option Int) : Option RV := match x with
  | .list ds => some (.fr (.list (cutD ds lo hi)))
  | .tuple ds => some (.d (.tuple (cutD ds lo hi)))
  | .str z => if z.length ≤ sizeLine then some (.d (.str (cutS z lo hi))) else none
  | _ => none
def mSl (ma : M EV) (ml mh : M (Option Int)) : M EV := ma.bind fun a => ml.bind fun lo => mh.bind fun hi => fun env g =>
  match look env a with
  | some x => M.opt ((pySl x lo hi).map RV.ev) env g
  | _ => .bad
theorem cutD_all {ds : List PyData} {lo hi : Option Int} (h1 : HT.sIx ds.length 0 lo = 0) (h2 : HT.sIx ds.length ds.length hi = ds.length) : cutD ds lo hi = ds := by
  unfold cutD
  rw [h1, h2]
  simp
theorem de_slice {lo hi : Option Expr} {p2 : Pos} {ma : M EV} {ml mh : M (Option Int)} (ha : DE X C e ma) (hl : DO X C lo ml) (hh : DO X C hi mh) : DE X C (.Subscript e (.Slice lo hi none p2) pos) (mSl ma ml mh) := by
  refine ⟨fun hK => ?_⟩
  obtain ⟨ta, h1, s1⟩ := ha.run hK
  obtain ⟨tl, h2, s2⟩ := hl.run hK
  obtain ⟨th, h3, s3⟩ := hh.run hK
  refine ⟨_, pe_slice (sl_list.or (sl_tupA.or sl_str)) h1 h2 h3, fun σ F H l env g Q R w => ?_⟩
  refine s1 σ F H l env g _ R (Wp.mono (Wp.bind.mp w) (fun a env1 g1 w v F1 H1 l1 R1 x1 r1 f1 => ?_) fun _ _ _ _ w => w)
  refine s2 σ F1 H1 l1 env1 g1 _ R1 (Wp.mono (Wp.bind.mp w) (fun lo' env2 g2 w F2 H2 l2 R2 x2 => ?_) fun _ _ _ _ w => w)
  refine s3 σ F2 H2 l2 env2 g2 _ R2 (Wp.mono (Wp.bind.mp w) (fun hi' env3 g3 w F3 H3 l3 R3 x3 => ?_) fun _ _ _ _ w => w)
  have x03 := (x1.trans (C := C) x2).trans (C := C) x3
  have r3 := (r1.up x2).up x3
  split at w
  · rename_i x e1
    have b := r3.look R3 e1
    cases hg : pySl x lo' hi' with
    | none => rw [hg] at w; exact w.elim
    | some ev =>
      rw [hg] at w
      have hq := KE.res R3 (KE.up w x03)
      rw [hK] at b hq
      unfold pySl at hg
      split at hg
      · cases hg
        obtain ⟨a, us, rfl, q, r⟩ := b.seq R3.sub
        exact .inl ⟨a, us, rfl, SqL.of q, fun p hp => hq.lst R3.sub hp (r.cut _ _)⟩
      · rename_i ds
        cases hg
        rcases b with b | ⟨a, _, o⟩
        · obtain ⟨a, us, rfl, q, r⟩ := rep_tup.mp b
          have hlen := r.length
          refine .inr (.inl ⟨a, us, rfl, SqT.up R3.sub q, fun hw => ?_, fun _ p hp => hq.tup R3.sub hp (r.cut _ _)⟩)
          rw [hlen] at hw
          have e2 := cutD_all hw.1 hw.2
          rw [e2] at hq
          exact hq.val R3.sub b
        · exact o.elim
      · rename_i z
        by_cases h1 : z.length ≤ sizeLine
        · rw [if_pos h1] at hg
          cases hg
          rw [b.str]
          exact .inr (.inr ⟨z, rfl, h1, hq.val R3.sub (rep_str.mpr rfl)⟩)
        · rw [if_neg h1] at hg
          cases hg
      · cases hg
  · exact w.elim
end
/-! ### a[::-1] -/
section
open PySem.W PyProof.Rows PySem.Spec HT
variable {prog : Program} {w : World} {A : Around} {E : Value → Shared → Prop} {s : Shared}
theorem adjust_rev (n : Nat) : Builtin.Slice.sliceAdjust none none (-1) (n : Int) = ((n : Int) - 1, -1) := by
  unfold Builtin.Slice.sliceAdjust
  simp
theorem places_rev (n : Nat) : Builtin.Slice.slicePlaces ((n : Int) - 1) (-1) (-1) = n := by
  unfold Builtin.Slice.slicePlaces
  rw [if_neg (by omega)]
  split <;> simp <;> omega
theorem range_rev (n : Nat) (f : Nat → Option Value) : (List.range n).filterMap (fun m => f (n - 1 - m)) = ((List.range n).filterMap f).reverse := by
  have e : (List.range n).reverse = (List.range n).map fun m => n - 1 - m := by
    refine List.ext_getElem (by simp) fun i h1 h2 => ?_
    simp
  rw [← List.filterMap_reverse, e, List.filterMap_map]
  rfl
theorem pick_rev (xs : List Value) : ((List.range xs.length).filterMap fun (m : Nat) => xs.toArray[(((xs.length : Int) - 1) + (m : Int) * (-1)).toNat]?).toArray = xs.reverse.toArray := by
  have e : (fun (m : Nat) => xs.toArray[(((xs.length : Int) - 1) + (m : Int) * (-1)).toNat]?) = fun m => (fun k => xs.toArray[k]?) (xs.length - 1 - m) := by
    funext m
    have : (((xs.length : Int) - 1) + (m : Int) * (-1)).toNat = xs.length - 1 - m := by omega
    rw [this]
  rw [e, range_rev]
  have h := pick_gen xs.toArray 0 xs.length
  have e2 : (fun (m : Nat) => xs.toArray[(((0 : Nat) : Int) + (m : Int) * 1).toNat]?) = fun m => xs.toArray[m]? := by
    funext m
    have : (((0 : Nat) : Int) + (m : Int) * 1).toNat = m := by omega
    rw [this]
  rw [e2] at h
  have h' := congrArg Array.toList h
  simp only at h'
  rw [h']
  simp
theorem sliceRev {sl : Addr} {vl vu vs : Value} {n : Nat} {Q : Int × Int × Nat → Shared → Prop} (hs : s.heap.IsSliceOf sl vl vu vs) (pl : IsPart vl none) (pu : IsPart vu none) (ps : IsPart vs (some (-1)))
    (h : Q ((n : Int) - 1, -1, n) s) : wpAny (model prog w) A (Builtin.Slice.sliceApplied (.ref sl) (pure (n : Int))) Q E s := by
  obtain ⟨os, hos, hcs, hds⟩ := id hs
  unfold Builtin.Slice.sliceApplied Builtin.Slice.sliceFields
  refine wpAny_bind (wpAny_bind (wpAny_field hos hds (x := vl) rfl (wpAny_bind (wpAny_field hos hds (x := vu) rfl (wpAny_bind (wpAny_field hos hds (x := vs) rfl (wpAny_pure ?_)))))))
  refine wpAny_bind (slicePart_ ps ?_)
  show wpAny _ _ (if ((-1 : Int) == 0) = true then _ else _) _ _ s
  rw [if_neg (by decide)]
  refine wpAny_bind (slicePart_ pl (wpAny_bind (slicePart_ pu (wpAny_bind (wpAny_pure ?_)))))
  show wpAny _ _ (match Builtin.Slice.sliceAdjust none none (-1) (n : Int) with | (a, b) => pure (a, (-1 : Int), Builtin.Slice.slicePlaces a b (-1))) _ _ s
  rw [adjust_rev n]
  show wpAny _ _ (pure ((n : Int) - 1, (-1 : Int), Builtin.Slice.slicePlaces ((n : Int) - 1) (-1) (-1))) _ _ s
  rw [places_rev]
  exact wpAny_pure h
theorem revTuple {t sl : Addr} {xs : List Value} {vl vu vs : Value} {Q : Value → Shared → Prop} (ht : IsTup s.heap t xs.toArray) (hs : s.heap.IsSliceOf sl vl vu vs) (pl : IsPart vl none) (pu : IsPart vu none) (ps : IsPart vs (some (-1)))
    (h : Q (.ref s.heap.objs.size) { s with heap := s.heap.push { cls := .type "tuple", data := .seq xs.reverse.toArray } })
    (hsz : xs.length ≤ sizeLine) : wpAny (model prog w) A (getItem (.ref t) (.ref sl)) Q E s := by
  have htake : sizeOk (.seq xs.reverse.toArray) := by
    show xs.reverse.toArray.size ≤ sizeLine
    rw [List.size_toArray, List.length_reverse]
    exact hsz
  obtain ⟨os, hos, hcs, hds⟩ := id hs
  have hTs : s.TypeIs (.ref sl) "slice" := ⟨os, hos, hcs⟩
  unfold getItem
  try with_reducible refine wpAny_holding ?_
  first | refine wpAny_bind (wpAny_pure ?_) | skip
  refine wpAny_bind (wpAny_sequenceKey ht.typeIs (by decide) ?_)
  refine wpAny_bind (wpAny_callSpecial?_slot (name := Str.ofString "__getitem__") ht.typeIs PyProof.Rows.slot_tuple_getitem
    (wpAny_call_entry PyProof.Rows.slot_tuple_getitem ht.typeIs entry_tuple_getitem ?_ (args_tuple_getitem _ _)))
  change wpAny _ _ (Builtin.Tuple.tupleItemsOf (.ref t) >>= _) _ _ s
  refine wpAny_bind (tupleItemsOf_ ht ?_)
  refine wpAny_bind (wpAny_typeOf hTs ?_)
  rw [if_pos (by decide)]
  refine wpAny_bind (sliceRev (n := xs.length) hs pl pu ps ?_)
  change wpAny _ _ (if (((xs.length : Int) - 1) == 0 && (-1 : Int) == 1 && xs.length == xs.toArray.size) = true then _ else _) _ _ s
  rw [if_neg (by simp), pick_rev]
  first
    | exact wpAny_bind (m := Builtin.Tuple.tupleExact _) (wpAny_newObj_type (wpAny_pure ⟨_, rfl, wpAny_pure h⟩) htake)
    | exact wpAny_bind (m := Builtin.Tuple.tupleExact _) (wpAny_newObj_type (wpAny_bind (wpAny_pure (wpAny_pure ⟨_, rfl, wpAny_pure h⟩))) htake)
    | exact wpAny_bind (wpAny_bind (m := Builtin.Tuple.tupleExact _) (wpAny_newObj_type (wpAny_pure (wpAny_pure ⟨_, rfl, wpAny_pure h⟩)) htake))
    | exact wpAny_bind (wpAny_bind (m := Builtin.Tuple.tupleExact _) (wpAny_newObj_type (wpAny_pure ⟨_, rfl, wpAny_pure h⟩) htake))
end
def pyRev : PyData → Option RV
  | .list ds => some (.fr (.list ds.reverse))
  | .tuple ds => some (.d (.tuple ds.reverse))
  | _ => none
theorem RepL.rev {K : PySem.W.Frag} {F : Hp} : ∀ {ds : List PyData} {vs : List V}, RepL K F vs ds → RepL K F vs.reverse ds.reverse
  | [], vs, h => by rw [repL_nil] at h; rw [h]; exact repL_nil.mpr rfl
  | d :: ds, vs, h => by
    obtain ⟨v, r, rfl, q, t⟩ := repL_cons.mp h
    rw [List.reverse_cons, List.reverse_cons]
    exact RepL.append (RepL.rev t) (repL_cons.mpr ⟨v, [], rfl, q, repL_nil.mpr rfl⟩)
section
open PySem.Spec PyProof.Rows
variable {X : Cx} {C : DCx} {e : Expr} {es : List Expr} {pos : Pos}
def tRevA (K : PySem.W.Frag) (te : TE) : TE := fun σ H Q => te σ H fun x H1 => (∃ a xs, x = .ref a ∧ SqL K H1 a xs ∧ ∀ p, H1 p = none → Q (.ref p) (upd H1 p (.lst xs.reverse))) ∨ ∃ a xs, x = .ref a ∧ SqT K H1 a xs ∧ ∀ p, H1 p = none → Q (.ref p) (upd H1 p (.tup xs.reverse))
theorem pe_revA {te : TE} {k : Nat} {p1 p2 p3 : Pos} (he : PE X e te) : PE X (.Subscript e (.Slice none none (some (.UnaryOp .USub (.Constant (.int 1) k p1) p2)) p3) pos) (tRevA X.K te) := by
  refine ⟨fun pins s σ H Q I h => ?_⟩
  refine Subscript_ (thn (he.run pins s σ H _ I h) fun v s1 ⟨x, H1, I1, r1, q1⟩ => ?_)
  have hst : PO X (some (.UnaryOp .USub (.Constant (.int 1) k p1) p2)) (tPart (tUn (rU fun i => .int (-i)) (tC (.int 1)))) := po_some (pe_un un_neg pe_int)
  refine wpAny_Slice (thn (po_none.run pins s1 σ H1 (fun o G => o = none ∧ G = H1) I1 ⟨rfl, rfl⟩) fun vl s2 ⟨l, H2, I2, pl, el, e2⟩ => ?_)
  subst el e2
  refine thn (po_none.run pins s2 σ H2 (fun o G => o = none ∧ G = H2) I2 ⟨rfl, rfl⟩) fun vu s3 ⟨u, H3, I3, pu, eu, e3⟩ => ?_
  subst eu e3
  refine thn (hst.run pins s3 σ H3 (fun o G => o = some (-1) ∧ G = H3) I3 ⟨1, rfl, -1, rfl, rfl, rfl⟩) fun vs s4 ⟨o, H4, I4, ps, eo, e4⟩ => ?_
  subst eo e4
  have I5 : Inv X pins σ H4 { s4 with heap := s4.heap.push { cls := .type "slice", data := .fields #[vl, vu, vs] } } := I4.kept (t' := s4.toks) fun b ob q => Heap.get?_push_of_some _ q
  change wpAny (model X.prog X.w) X.A (subscriptTail e (.Slice none none (some (.UnaryOp .USub (.Constant (.int 1) k p1) p2)) p3) v (.ref s4.heap.objs.size)) (EP X pins σ Q) X.xe { s4 with heap := s4.heap.push { cls := .type "slice", data := .fields #[vl, vu, vs] } }
  rcases q1 with ⟨a, xs, rfl, hx, q⟩ | ⟨a, xs, rfl, hx, q⟩
  · cases r1
    obtain ⟨its, r, ht, hz⟩ := I5.list hx
    have hlen := r.length
    refine tail_any (ops := [.ref a, .ref s4.heap.objs.size]) ht.isList.typeIs (PySem.slot_list_getitem.lookup) ?_ (by with_unfolding_all rfl)
    refine wpAny_getItem_list_slice ht.isList (Heap.IsSliceOf.new _ vl vu vs) pl pu ps (by decide) ?_ (by rw [List.size_toArray]; omega)
    rw [PySem.W.krv_pick]
    exact ⟨.ref _, _, I5.laid (t' := s4.toks) (o := .lst xs.reverse) (fun b ob q => Heap.get?_push_of_some _ q) (Nat.le_refl _) ⟨by rw [List.length_reverse]; exact hz, _, 0, r.reverse, Heap.get?_push_size _ rfl⟩, rfl, q _ (I5.hok.fresh (Nat.le_refl _))⟩
  · cases r1
    obtain ⟨its, r, ht, hz⟩ := I5.tuple hx
    have hlen := r.length
    refine tail_any (ops := [.ref a, .ref s4.heap.objs.size]) ht.typeIs (PyProof.Rows.slot_tuple_getitem.lookup) ?_ (by with_unfolding_all rfl)
    refine revTuple ht (Heap.IsSliceOf.new _ vl vu vs) pl pu ps ?_ (by rw [← hlen]; exact hz)
    exact ⟨.ref _, _, I5.laid (t' := s4.toks) (o := .tup xs.reverse) (fun b ob q => Heap.get?_push_of_some _ q) (Nat.le_refl _) ⟨by rw [List.length_reverse]; exact hz, _, r.reverse, IsTup.new _ _⟩, rfl, q _ (I5.hok.fresh (Nat.le_refl _))⟩
theorem de_rev {k : Nat} {p1 p2 p3 : Pos} {ma : M EV} (ha : DE X C e ma) : DE X C (.Subscript e (.Slice none none (some (.UnaryOp .USub (.Constant (.int 1) k p1) p2)) p3) pos) (mUn pyRev ma) := by
  refine ⟨fun hK => ?_⟩
  obtain ⟨ta, h1, s1⟩ := ha.run hK
  refine ⟨_, pe_revA h1, fun σ F H l env g Q R w => ?_⟩
  refine s1 σ F H l env g _ R (Wp.mono (Wp.bind.mp w) (fun a env1 g1 w v F1 H1 l1 R1 x1 r1 f1 => ?_) fun _ _ _ _ w => w)
  split at w
  · rename_i x e1
    have b := r1.look R1 e1
    cases hg : pyRev x with
    | none => rw [hg] at w; exact w.elim
    | some ev =>
      rw [hg] at w
      have hq := KE.res R1 (KE.up w x1)
      rw [hK] at b hq
      unfold pyRev at hg
      split at hg
      · cases hg
        obtain ⟨a, us, rfl, q, r⟩ := b.seq R1.sub
        exact .inl ⟨a, us, rfl, SqL.of q, fun p hp => hq.lst R1.sub hp r.rev⟩
      · cases hg
        obtain ⟨a, us, rfl, q, r⟩ := b.tup R1.sub
        exact .inr ⟨a, us, rfl, q, fun p hp => hq.tup R1.sub hp r.rev⟩
      · cases hg
  · exact w.elim
/-! ### list(range(..)), tuple(range(..)) -/
def SimRg (C : DCx) (t : L2.St → Hp → (Int → Int → Hp → Prop) → Prop) (m : M (Int × Int)) : Prop := ∀ (σ : L2.St) (F H : Hp) (l : Loc) (env : Env') (g : G) (Q : Int → Int → Hp → Prop), Rel C σ F H l env g →
  Wp (m env g) (fun p env' g' => ∀ F' H' l', Rel C σ F' H' l' env' g' → Ext σ F H l env F' H' l' env' → Q p.1 p.2 H') (KX C σ) → t σ H Q
structure DR (X : Cx) (C : DCx) (e : Expr) (m : M (Int × Int)) : Prop where
  run : C.K = X.K → ∃ t, PRg X e t ∧ SimRg C t m
def mIntOf : PyData → M Int
  | .int i => M.pure i
  | _ => M.bad
def mRg1 (ma : M PyData) : M (Int × Int) := ma.bind fun a => (mIntOf a).bind fun n => M.pure (0, n)
def mRg2 (ma mb : M PyData) : M (Int × Int) := ma.bind fun a => mb.bind fun b => (mIntOf a).bind fun i => (mIntOf b).bind fun j => M.pure (i, j)
theorem dr_1 {a : Expr} {p : Pos} {ma : M PyData} (hg : Gl X "range") (hm : X.mg "range" = none) (ha : DD X C a ma) (na : starEach [a] X.env = (false, eval a X.env) :: starEach [] X.env := by rfl) : DR X C (.Call (.Name "range" p) [a] [] pos) (mRg1 ma) := by
  refine ⟨fun hK => ?_⟩
  obtain ⟨ta, h1, s1⟩ := ha.run hK
  refine ⟨_, prg_1 hg hm h1 na, fun σ F H l env g Q R w => ?_⟩
  refine s1 σ F H l env g _ R (Wp.mono (Wp.bind.mp w) (fun d env1 g1 w v F1 H1 l1 R1 x1 r1 => ?_) fun _ _ _ _ w => w)
  cases d with
  | int i => exact ⟨i, rep_int.mp r1, w F1 H1 l1 R1 x1⟩
  | _ => exact w.elim
theorem dr_2 {a b : Expr} {p : Pos} {ma mb : M PyData} (hg : Gl X "range") (hm : X.mg "range" = none) (ha : DD X C a ma) (hb : DD X C b mb) (na : starEach [a, b] X.env = (false, eval a X.env) :: starEach [b] X.env := by rfl)
    (nb : starEach [b] X.env = (false, eval b X.env) :: starEach [] X.env := by rfl) (hp : (backTo pos (starEach [b] X.env)).any (·.1) = false := by rfl) : DR X C (.Call (.Name "range" p) [a, b] [] pos) (mRg2 ma mb) := by
  refine ⟨fun hK => ?_⟩
  obtain ⟨ta, h1, s1⟩ := ha.run hK
  obtain ⟨tb, h2, s2⟩ := hb.run hK
  refine ⟨_, prg_2 hg hm h1 h2 na nb hp, fun σ F H l env g Q R w => ?_⟩
  refine s1 σ F H l env g _ R (Wp.mono (Wp.bind.mp w) (fun d env1 g1 w v F1 H1 l1 R1 x1 r1 => ?_) fun _ _ _ _ w => w)
  refine s2 σ F1 H1 l1 env1 g1 _ R1 (Wp.mono (Wp.bind.mp w) (fun d2 env2 g2 w u F2 H2 l2 R2 x2 r2 => ?_) fun _ _ _ _ w => w)
  cases d with
  | int i =>
    cases d2 with
    | int j => exact ⟨i, j, rep_int.mp r1, rep_int.mp r2, w F2 H2 l2 R2 (x1.trans (C := C) x2)⟩
    | _ => exact w.elim
  | _ => exact w.elim
def rgInts (a b : Int) : List PyData := (List.range (b - a).toNat).map fun i => .int (a + (i : Nat))
theorem repL_rg {K : PySem.W.Frag} {F : Hp} (a b : Int) : RepL K F (rgV a b) (rgInts a b) := RepL.of_map (fun _ => rep_int.mpr rfl) _
def rgOk (a b : Int) : Bool := decide (a.natAbs < 2 ^ 62) && decide (b.natAbs < 2 ^ 62) && decide ((b - a).toNat ≤ 2 ^ 24)
theorem rgOk_of {a b : Int} (h : rgOk a b = true) : RgOk a b := by
  unfold rgOk at h
  simp only [Bool.and_eq_true, decide_eq_true_eq] at h
  obtain ⟨⟨h1, h2⟩, h3⟩ := h
  exact ⟨by omega, by omega, by omega, by omega, h3⟩
def rgTo (a b : Int) : Option (List PyData) := if rgOk a b then some (rgInts a b) else none
def rgGo (f : List PyData → RV) : Int × Int → M EV
  | (a, b) => match rgTo a b with
    | some ds => M.pure (f ds).ev
    | none => M.bad
theorem rgGo_eq (f : List PyData → RV) (a b : Int) : rgGo f (a, b) = match rgTo a b with
    | some ds => M.pure (f ds).ev
    | none => M.bad := rfl
def mRgL (f : List PyData → RV) (m : M (Int × Int)) : M EV := m.bind (rgGo f)
theorem de_listRg {p : Pos} {m : M (Int × Int)} (hc : X.calm = true) (hg : Gl X "list") (hm : X.mg "list" = none) (he : DR X C e m) (na : starEach [e] X.env = (false, eval e X.env) :: starEach [] X.env := by rfl) : DE X C (.Call (.Name "list" p) [e] [] pos) (mRgL (fun ds => .fr (.list ds)) m) := by
  refine ⟨fun hK => ?_⟩
  obtain ⟨t, h1, s1⟩ := he.run hK
  refine ⟨_, pe_listRg hc hg hm h1 na, fun σ F H l env g Q R w => ?_⟩
  refine s1 σ F H l env g _ R (Wp.mono (Wp.bind.mp w) (fun d env1 g1 w F1 H1 l1 R1 x1 => ?_) fun _ _ _ _ w => w)
  obtain ⟨i, j⟩ := d
  rw [rgGo_eq] at w
  cases q1 : rgTo i j with
  | none => rw [q1] at w; exact w.elim
  | some ds =>
  rw [q1] at w
  obtain ⟨ok, rfl⟩ := if_some q1
  exact ⟨rgOk_of ok, fun q hq => (KE.res (r := .fr (.list (rgInts i j))) R1 (KE.up w x1)).lst R1.sub hq (repL_rg _ _)⟩
theorem de_tupRg {p : Pos} {m : M (Int × Int)} (hc : X.calm = true) (hg : Gl X "tuple") (hm : X.mg "tuple" = none) (he : DR X C e m) (na : starEach [e] X.env = (false, eval e X.env) :: starEach [] X.env := by rfl) : DE X C (.Call (.Name "tuple" p) [e] [] pos) (mRgL (fun ds => .d (.tuple ds)) m) := by
  refine ⟨fun hK => ?_⟩
  obtain ⟨t, h1, s1⟩ := he.run hK
  refine ⟨_, pe_tupRg hc hg hm h1 na, fun σ F H l env g Q R w => ?_⟩
  refine s1 σ F H l env g _ R (Wp.mono (Wp.bind.mp w) (fun d env1 g1 w F1 H1 l1 R1 x1 => ?_) fun _ _ _ _ w => w)
  obtain ⟨i, j⟩ := d
  rw [rgGo_eq] at w
  cases q1 : rgTo i j with
  | none => rw [q1] at w; exact w.elim
  | some ds =>
  rw [q1] at w
  obtain ⟨ok, rfl⟩ := if_some q1
  exact ⟨rgOk_of ok, fun q hq => (KE.res (r := .d (.tuple (rgInts i j))) R1 (KE.up w x1)).tup R1.sub hq (repL_rg _ _)⟩
end
end DL
namespace DL
open PySem L2
theorem RepEV.ofn {C : DCx} {σ : L2.St} {F H : Hp} {l : Loc} {env : Env'} : RepEV C σ F H l env .non (.d .none) := by
  show Rep C.K F .non .none
  exact rep_none.mpr rfl
theorem RepEV.ofd {C : DCx} {σ : L2.St} {F H : Hp} {l : Loc} {env : Env'} {v : V} {x : PyData} (h : Rep C.K F v x) : RepEV C σ F H l env v (.d x) := h
/-! ### own lists, written -/
section
variable {C : DCx} {σ : L2.St} {F H : Hp} {l : Loc} {env : Env'} {g : G}
theorem Rel.put {i : Nat} {x : PyData} {a : Addr} {ds : List PyData} {vs : List V} (R : Rel C σ F H l env g) (e : env[i]? = some (Slot.own x)) (ha : σ[i]? = some (some (V.ref a))) (r : RepL C.K F vs ds) :
    Rel C σ F (upd H a (.lst vs)) l (env.set i (Slot.own (.list ds))) g ∧ Ext σ F H l env F (upd H a (.lst vs)) l (env.set i (Slot.own (.list ds))) := by
  obtain ⟨b, h1, h2, h3, h4, h5⟩ := R.own i x e
  rw [ha] at h1
  cases h1
  have oa : OwnAt σ env a := ⟨i, x, e, ha⟩
  refine ⟨⟨fun b w q => ?_, by rw [List.length_set]; exact R.len, fun j y q => ?_, fun j y q => ?_, fun j k y z b q1 q2 => ?_, fun j ns q => ?_, fun j bb q => ?_, ?_, fun b o q ns => ?_, fun b q => ?_, R.f0, R.fo, R.lo, R.l0⟩,
    ⟨.refl _, fun b q => ?_, fun b o q n1 _ => ?_, fun b q => .inl q, fun b ⟨j, y, q, hq⟩ => ?_, fun _ q => q, fun _ q => .inl q⟩⟩
  · have hb : b ≠ a := ne_of_none q h3
    rw [upd_ne hb]
    exact R.sub _ _ q
  · rcases get_set_cases q with ⟨z, w⟩ | ⟨z, q⟩
    · cases w
    · exact R.dat j y q
  · rcases get_set_cases q with ⟨z, w⟩ | ⟨z, q⟩
    · subst z
      cases w
      exact ⟨a, ha, ⟨vs, upd_same, r⟩, h3, h4, h5⟩
    · obtain ⟨b, g1, g2, g3, g4, g5⟩ := R.own j y q
      have hb : b ≠ a := fun w => z (R.inj i j x y a e q ha (by rw [← w]; exact g1))
      exact ⟨b, g1, g2.up (.refl _) fun o q => by rw [upd_ne hb]; exact q, g3, g4, g5⟩
  · have lift : ∀ {j : Nat} {y : PyData}, (env.set i (Slot.own (.list ds)))[j]? = some (Slot.own y) → ∃ y', env[j]? = some (Slot.own y') := fun q => by
      rcases get_set_cases q with ⟨z, w⟩ | ⟨z, q⟩
      · subst z; exact ⟨x, e⟩
      · exact ⟨_, q⟩
    obtain ⟨y', e1⟩ := lift q1
    obtain ⟨z', e2⟩ := lift q2
    exact R.inj j k y' z' b e1 e2
  · rcases get_set_cases q with ⟨z, w⟩ | ⟨z, q⟩
    · cases w
    · exact R.iscr j ns q
  · rcases get_set_cases q with ⟨z, w⟩ | ⟨z, q⟩
    · cases w
    · exact R.isrc j _ q
  · have q := R.src
    cases l with
    | none => cases g with
      | none => trivial
      | some s => exact q.elim
    | some p => cases g with
      | none => exact q.elim
      | some s =>
        obtain ⟨k1, k2, k3, k4, k5⟩ := q
        have n1 : p.1 ≠ a := fun z => h5 ⟨p, rfl, .inl z.symm⟩
        have n2 : p.2 ≠ a := fun z => h5 ⟨p, rfl, .inr z.symm⟩
        exact ⟨k1, by rw [upd_ne n1]; exact k2, by rw [upd_ne n2]; exact k3, k4, k5⟩
  · have hb : b ≠ a := fun z => by rw [z, h4] at q; cases q
    rw [upd_ne hb]
    exact R.old b o q ns
  · by_cases hb : b = a
    · rw [hb, upd_same]; exact nofun
    · rw [upd_ne hb]; exact R.oldd b q
  · by_cases hb : b = a
    · rw [hb, upd_same]; exact nofun
    · rw [upd_ne hb]; exact q
  · have hb : b ≠ a := fun z => n1 (by rw [z]; exact oa)
    rw [upd_ne hb]
    exact q
  · rcases get_set_cases q with ⟨z, w⟩ | ⟨z, q⟩
    · subst z
      exact ⟨_, x, e, hq⟩
    · exact ⟨j, y, q, hq⟩
end
/-- the list that slot i owns -/
def ownL (i : Nat) (env : Env') : Option (List PyData) := match env[i]? with
  | some (.own (.list ds)) => some ds
  | _ => none
theorem ownL_eq {i : Nat} {env : Env'} {ds : List PyData} (h : ownL i env = some ds) : env[i]? = some (.own (.list ds)) := by
  unfold ownL at h
  split at h
  · cases h; assumption
  · cases h
def mAppend (i : Nat) (ma : M PyData) : M EV := ma.bind fun d => fun env g =>
  match ownL i env with
  | some ds => if ds.length < sizeLine then .ok (.d .none) (env.set i (.own (.list (ds ++ [d])))) g else .bad
  | none => .bad
def mPop (i : Nat) : M EV := fun env g =>
  match ownL i env with
  | some ds => match ds[ds.length - 1]? with
    | some d => .ok (.d d) (env.set i (.own (.list ds.dropLast))) g
    | none => .bad
  | none => .bad
def mPopAt (i : Nat) (ma : M PyData) : M EV := ma.bind fun d => fun env g =>
  match d, ownL i env with
  | .int j, some ds => match seqIndex? j ds.length with
    | some k => match ds[k]? with
      | some x => if j.natAbs < 2 ^ 63 then .ok (.d x) (env.set i (.own (.list (ds.eraseIdx k)))) g else .bad
      | none => .bad
    | none => .bad
  | _, _ => .bad
/-- x.extend(e), e a list -/
def mExtend (i : Nat) (ma : M EV) : M EV := ma.bind fun a => fun env g =>
  match look env a, ownL i env with
  | some (.list es), some ds => if ds.length + es.length ≤ sizeLine then .ok (.d .none) (env.set i (.own (.list (ds ++ es)))) g else .bad
  | _, _ => .bad
theorem RepL.dropLast {K : PySem.W.Frag} {F : Hp} {ds : List PyData} {vs : List V} (h : RepL K F vs ds) : RepL K F vs.dropLast ds.dropLast := by
  rw [List.dropLast_eq_take, List.dropLast_eq_take, h.length]
  exact RepL.take _ h
theorem RepL.eraseIdx {K : PySem.W.Frag} {F : Hp} : ∀ {ds : List PyData} {vs : List V} (k : Nat), RepL K F vs ds → RepL K F (vs.eraseIdx k) (ds.eraseIdx k)
  | [], vs, k, h => by rw [repL_nil] at h; subst h; exact repL_nil.mpr rfl
  | d :: ds, vs, k, h => by
    obtain ⟨v, r, rfl, q, t⟩ := repL_cons.mp h
    cases k with
    | zero => exact t
    | succ k => exact repL_cons.mpr ⟨v, _, rfl, q, RepL.eraseIdx k t⟩
section
variable {X : Cx} {C : DCx} {o e : Expr} {es : List Expr} {apos cpos : Pos} {i : Nat}
theorem Rel.ownLst {σ : L2.St} {F H : Hp} {l : Loc} {env : Env'} {g : G} {ds : List PyData} (R : Rel C σ F H l env g) (e : env[i]? = some (.own (.list ds))) : ∃ a vs, σ[i]? = some (some (V.ref a)) ∧ H a = some (.lst vs) ∧ RepL C.K F vs ds := by
  obtain ⟨a, h1, ⟨vs, h2, r⟩, _⟩ := R.own i _ e
  exact ⟨a, vs, h1, h2, r⟩
/-- the slot's owner ahead: whatever is owned after was owned ahead, at its own address -/
theorem own_back {σ : L2.St} {F H F' H' : Hp} {l l' : Loc} {env env' : Env'} {g g' : G} {y : PyData} {a : Addr} (R : Rel C σ F H l env g) (R' : Rel C σ F' H' l' env' g') (x : Ext σ F H l env F' H' l' env') (e' : env'[i]? = some (.own y)) (ha : σ[i]? = some (some (V.ref a))) : OwnAt σ env a :=
  x.ow a ⟨i, y, e', ha⟩
/-- the receiver is a list, whatever becomes of it -/
def ownIs (i : Nat) (env : Env') : Bool := match env[i]? with
  | some (.own (.list _)) => true
  | _ => false
theorem ownIs_eq {env : Env'} (h : ownIs i env = true) : ∃ ds, env[i]? = some (.own (.list ds)) := by
  unfold ownIs at h
  split at h
  · exact ⟨_, by assumption⟩
  · cases h
def mOn {α : Type} (i : Nat) (m : M α) : M α := fun env g => if ownIs i env = true then m env g else .bad
theorem de_append (ho : PE X o (tVar i)) {m : M PyData} (he : DD X C e m)
    (hbase : attributeBase o "append" X.env (eval o X.env) = eval o X.env := by rfl)
    (hfew : ((backTo cpos (starEach [e] X.env)).all (fun x => !x.1) && (backToKw cpos (keywordEach [] X.env)).all (fun x => x.1.isSome) && decide ([e].length + ([] : List Keyword).length + (if ([] : List Keyword).isEmpty then 0 else 1) < 30)) = true := by rfl)
    (hline : (apos.endLine == cpos.line) = true := by rfl) (hs : starEach [e] X.env = (false, eval e X.env) :: starEach [] X.env := by rfl) (hplain : (backTo cpos (starEach [] X.env)).any (·.1) = false := by rfl) :
    DE X C (.Call (.Attribute o "append" apos) [e] [] cpos) (mOn i (mAppend i m)) := by
  refine ⟨fun hK => ?_⟩
  obtain ⟨t, ht, s⟩ := he.run hK
  refine ⟨_, pe_bm PySem.F.plainAttrs_list PySem.F.slot_list_append PySem.F.type_list_append (id := "list.append") (show MtR X "list.append" rAppend from mt_append) ho (pa_cons ht pa_nil hs) hbase hfew hline hs hplain, fun σ F H l env g Q R w => ?_⟩
  obtain ⟨h0, w⟩ := wp_iteR w
  obtain ⟨ds0, e0⟩ := ownIs_eq h0
  obtain ⟨a, vs0, g1, g2, g3⟩ := R.ownLst e0
  refine ⟨.ref a, g1, .inl ⟨rfl, vs0, SqL.of g2⟩, ?_⟩
  refine s σ F H l env g _ R (Wp.mono (Wp.bind.mp w) (fun d env1 gg w v F1 H1 l1 R1 x1 r1 => ?_) fun _ _ _ _ w => w)
  split at w
  · rename_i ds h1
    obtain ⟨hz, w⟩ := wp_iteR w
    have h1 := ownL_eq h1
    obtain ⟨b, vs, k1, k2, k3⟩ := R1.ownLst h1
    rw [g1] at k1
    cases k1
    obtain ⟨R2, x2⟩ := R1.put h1 g1 (RepL.append k3 (repL_cons.mpr ⟨v, [], rfl, r1, repL_nil.mpr rfl⟩))
    exact ⟨a, vs, v, rfl, rfl, k2, by rw [k3.length]; exact hz, w .non F1 _ l1 R2 (x1.trans (C := C) x2) RepEV.ofn trivial⟩
  · exact w.elim
theorem de_extend (ho : PE X o (tVar i)) {m : M EV} (he : DE X C e m)
    (hbase : attributeBase o "extend" X.env (eval o X.env) = eval o X.env := by rfl)
    (hfew : ((backTo cpos (starEach [e] X.env)).all (fun x => !x.1) && (backToKw cpos (keywordEach [] X.env)).all (fun x => x.1.isSome) && decide ([e].length + ([] : List Keyword).length + (if ([] : List Keyword).isEmpty then 0 else 1) < 30)) = true := by rfl)
    (hline : (apos.endLine == cpos.line) = true := by rfl) (hs : starEach [e] X.env = (false, eval e X.env) :: starEach [] X.env := by rfl) (hplain : (backTo cpos (starEach [] X.env)).any (·.1) = false := by rfl) :
    DE X C (.Call (.Attribute o "extend" apos) [e] [] cpos) (mOn i (mExtend i m)) := by
  refine ⟨fun hK => ?_⟩
  obtain ⟨t, ht, s⟩ := he.run hK
  refine ⟨_, pe_bm PySem.F.plainAttrs_list PySem.F.slot_list_extend PySem.F.type_list_extend (id := "list.extend") (show MtR X "list.extend" rExtend from mt_extend) ho (pa_cons ht pa_nil hs) hbase hfew hline hs hplain, fun σ F H l env g Q R w => ?_⟩
  obtain ⟨h0, w⟩ := wp_iteR w
  obtain ⟨ds0, e0⟩ := ownIs_eq h0
  obtain ⟨a, vs0, g1, g2, g3⟩ := R.ownLst e0
  refine ⟨.ref a, g1, .inl ⟨rfl, vs0, SqL.of g2⟩, ?_⟩
  refine s σ F H l env g _ R (Wp.mono (Wp.bind.mp w) (fun d env1 gg w v F1 H1 l1 R1 x1 r1 f1 => ?_) fun _ _ _ _ w => w)
  split at w
  · rename_i es' ds h2 h1
    obtain ⟨hz, w⟩ := wp_iteR w
    have h1 := ownL_eq h1
    obtain ⟨b, vs, k1, k2, k3⟩ := R1.ownLst h1
    rw [g1] at k1
    cases k1
    obtain ⟨c, us, rfl, q1, q2⟩ := (r1.look R1 h2).seq R1.sub
    obtain ⟨R2, x2⟩ := R1.put h1 g1 (RepL.append k3 q2)
    exact ⟨a, c, vs, us, rfl, rfl, k2, q1, by rw [k3.length, q2.length]; exact hz, w .non F1 _ l1 R2 (x1.trans (C := C) x2) RepEV.ofn trivial⟩
  · exact w.elim
theorem de_pop (ho : PE X o (tVar i)) (hbase : attributeBase o "pop" X.env (eval o X.env) = eval o X.env := by rfl) (hline : (apos.endLine == cpos.line) = true := by rfl) :
    DE X C (.Call (.Attribute o "pop" apos) [] [] cpos) (mPop i) := by
  refine ⟨fun hK => ?_⟩
  refine ⟨_, pe_bm0 PySem.F.plainAttrs_list PySem.F.slot_list_pop PySem.F.type_list_pop (id := "list.pop") (show MtR X "list.pop" rPop from mt_pop) ho hbase hline, fun σ F H l env g Q R w => ?_⟩
  unfold mPop at w
  split at w
  · rename_i ds h1
    split at w
    · rename_i d h2
      have h1 := ownL_eq h1
      obtain ⟨a, vs, k1, k2, k3⟩ := R.ownLst h1
      obtain ⟨v, h3, h4⟩ := RepL.get' k3 h2
      obtain ⟨R2, x2⟩ := R.put h1 k1 (RepL.dropLast k3)
      exact ⟨.ref a, k1, .inl ⟨rfl, vs, SqL.of k2⟩, a, vs, v, rfl, rfl, k2, by rw [k3.length]; exact h3, w v F _ l R2 x2 h4 trivial⟩
    · exact w.elim
  · exact w.elim
theorem de_popAt (ho : PE X o (tVar i)) {m : M PyData} (he : DD X C e m)
    (hbase : attributeBase o "pop" X.env (eval o X.env) = eval o X.env := by rfl)
    (hfew : ((backTo cpos (starEach [e] X.env)).all (fun x => !x.1) && (backToKw cpos (keywordEach [] X.env)).all (fun x => x.1.isSome) && decide ([e].length + ([] : List Keyword).length + (if ([] : List Keyword).isEmpty then 0 else 1) < 30)) = true := by rfl)
    (hline : (apos.endLine == cpos.line) = true := by rfl) (hs : starEach [e] X.env = (false, eval e X.env) :: starEach [] X.env := by rfl) (hplain : (backTo cpos (starEach [] X.env)).any (·.1) = false := by rfl) :
    DE X C (.Call (.Attribute o "pop" apos) [e] [] cpos) (mOn i (mPopAt i m)) := by
  refine ⟨fun hK => ?_⟩
  obtain ⟨t, ht, s⟩ := he.run hK
  refine ⟨_, pe_bm PySem.F.plainAttrs_list PySem.F.slot_list_pop PySem.F.type_list_pop (id := "list.pop") (show MtR X "list.pop" rPopAt from mt_popAt) ho (pa_cons ht pa_nil hs) hbase hfew hline hs hplain, fun σ F H l env g Q R w => ?_⟩
  obtain ⟨h0, w⟩ := wp_iteR w
  obtain ⟨ds0, e0⟩ := ownIs_eq h0
  obtain ⟨a, vs0, g1, g2, g3⟩ := R.ownLst e0
  refine ⟨.ref a, g1, .inl ⟨rfl, vs0, SqL.of g2⟩, ?_⟩
  refine s σ F H l env g _ R (Wp.mono (Wp.bind.mp w) (fun d env1 gg w v F1 H1 l1 R1 x1 r1 => ?_) fun _ _ _ _ w => w)
  split at w
  · rename_i j ds h1
    split at w
    · rename_i k h2
      split at w
      · rename_i x h3
        obtain ⟨b12, w⟩ := wp_iteR w
        have b1 : -(2 ^ 63) ≤ j := by omega
        have b2 : j < 2 ^ 63 := by omega
        have h1 := ownL_eq h1
        obtain ⟨b, vs, k1, k2, k3⟩ := R1.ownLst h1
        rw [g1] at k1
        cases k1
        cases rep_int.mp r1
        obtain ⟨u, h4, h5⟩ := RepL.get' k3 h3
        obtain ⟨R2, x2⟩ := R1.put h1 g1 (RepL.eraseIdx k k3)
        exact ⟨a, vs, j, k, u, rfl, rfl, k2, b1, b2, by rw [k3.length]; exact h2, h4, w u F1 _ l1 R2 (x1.trans (C := C) x2) h5 trivial⟩
      · exact w.elim
    · exact w.elim
  · exact w.elim
end
/-! ### xs.index(y) -/
def indexD (ds : List PyData) (d : PyData) : Option Nat := ds.findIdx? fun z => PyData.eqv z d
def pyIndex (x y : PyData) : Option RV := match x with
  | .list ds => if SeqAt.shaped (.list ds) && SeqAt.shaped y then (indexD ds y).map fun j : Nat => oneI (j : Nat) else none
  | _ => none
section
variable {X : Cx} {C : DCx} {o e : Expr} {es : List Expr} {apos cpos : Pos} {i : Nat}
def rIdx (K : PySem.W.Frag) : V → List V → Hp → VK → Prop := fun x xs H Q => ∃ (F : Hp) (y : V) (d : PyData) (ds : List PyData) (j : Nat), xs = [y] ∧ Same F H ∧ Bor K F H x (.list ds) ∧ Bor K F H y d ∧
  SeqAt.shaped (.list ds) = true ∧ SeqAt.shaped d = true ∧ indexD ds d = some j ∧ Q (.int (j : Nat)) H
theorem mt_idx (hu : X.A.units + 65 < cLine) : MtR X "list.index" (rIdx X.K) := by
  intro pins s σ H x xs v us Q I rx rxs h
  obtain ⟨F, y, d, ds, j, rfl, hsm, hl, hy, sl, sd, hj, q⟩ := h
  cases rxs with
  | cons ry rt =>
    rename_i uy ut
    cases rt
    obtain ⟨bs, r1⟩ := hy.reads I hsm ry
    obtain ⟨a, vs, rfl, hs, rl⟩ := hl.seq hsm
    cases rx
    have hxs : PyData.canLayAll0 ds = true := SeqAt.canLay_of_shaped sl
    obtain ⟨its, rv, ⟨⟨cls, dd, data, sls⟩, n, ho, hc, hdn, hdt⟩, hlen⟩ := I.list (SqL.of hs)
    simp only at hc hdt
    subst hc hdt
    obtain ⟨as, h4⟩ := RepL.reads I hsm ds vs its rl rv
    have hn : its.length = ds.length := SeqAt.ReadsAll.length ds its as h4
    have hmap : its.map (SeqAt.readOf s.heap) = ds := SeqAt.readsAll_map ds its as hxs h4
    have hvl := rv.length
    have hsl := sizeLine_eq
    have hjd : j < ds.length := (List.findIdx?_eq_some_iff_getElem.mp hj).choose
    have hjp := (List.findIdx?_eq_some_iff_getElem.mp hj).choose_spec
    have hjl : j < its.length := by omega
    have rd : ∀ (m : Nat) (hm : m < its.toArray.size) (hd : m < ds.length), SeqAt.readOf s.heap its.toArray[m] = ds[m] := by
      intro m hm hd
      have hml : m < its.length := by simpa using hm
      have e1 : (its.map (SeqAt.readOf s.heap))[m]? = some (SeqAt.readOf s.heap its[m]) := by rw [List.getElem?_map, List.getElem?_eq_getElem hml]; rfl
      rw [hmap, List.getElem?_eq_getElem hd] at e1
      have e2 := Option.some.inj e1
      simpa using e2.symm
    refine call_meets PySem.F.slot_list_index ⟨_, ho, rfl⟩ PySem.F.entry_list_index (PySem.F.args_list_index_2 _ _)
      (SeqAt.list_indexAt a its.toArray n dd sls uy (fun u => PyData.eqv (SeqAt.readOf s.heap u) d) j (by simpa using hjl) (by have := line63; omega) ?_ ?_) ⟨ho, SeqAt.items_eqAt (vs := its.toArray) (show ReadsAll s.heap its.toArray.toList ds as from h4) r1 hxs (SeqAt.canLay_of_shaped sd) (roomIn sd hu), ⟨.int (j : Nat), H, I.tok _, ⟨_, rfl⟩, q⟩⟩
    · change PyData.eqv (SeqAt.readOf s.heap its.toArray[j]) d = true
      rw [rd j _ hjd]
      exact hjp.1
    · intro m hm hmj
      change PyData.eqv (SeqAt.readOf s.heap its.toArray[m]) d = false
      rw [rd m hm (by omega)]
      have := hjp.2 m hmj
      simpa using this
def mIdx (ma mb : M EV) : M EV := ma.bind fun a => fun env g => match look env a with
  | some (.list _) => (mb.bind fun b => fun env g => match look env a, look env b with
    | some x, some y => M.opt ((pyIndex x y).map RV.ev) env g
    | _, _ => .bad) env g
  | _ => .bad
theorem de_index (hu : X.A.units + 65 < cLine) {ma mb : M EV} (ho : DE X C o ma) (he : DE X C e mb)
    (hbase : attributeBase o "index" X.env (eval o X.env) = eval o X.env := by rfl)
    (hfew : ((backTo cpos (starEach [e] X.env)).all (fun x => !x.1) && (backToKw cpos (keywordEach [] X.env)).all (fun x => x.1.isSome) && decide ([e].length + ([] : List Keyword).length + (if ([] : List Keyword).isEmpty then 0 else 1) < 30)) = true := by rfl)
    (hline : (apos.endLine == cpos.line) = true := by rfl) (hs : starEach [e] X.env = (false, eval e X.env) :: starEach [] X.env := by rfl) (hplain : (backTo cpos (starEach [] X.env)).any (·.1) = false := by rfl) :
    DE X C (.Call (.Attribute o "index" apos) [e] [] cpos) (mIdx ma mb) := by
  refine ⟨fun hK => ?_⟩
  obtain ⟨ta, h1, s1⟩ := ho.run hK
  obtain ⟨tb, h2, s2⟩ := he.run hK
  refine ⟨_, pe_bm PySem.F.plainAttrs_list PySem.F.slot_list_index PySem.F.type_list_index (mt_idx hu) h1 (pa_cons h2 pa_nil hs) hbase hfew hline hs hplain, fun σ F H l env g Q R w => ?_⟩
  refine s1 σ F H l env g _ R (Wp.mono (Wp.bind.mp w) (fun a env1 g1 w v F1 H1 l1 R1 x1 r1 f1 => ?_) fun _ _ _ _ w => w)
  split at w
  · rename_i ds0 e0
    obtain ⟨c, us, rfl, q1, q2⟩ := (r1.look R1 e0).seq R1.sub
    refine ⟨.inl ⟨rfl, us, SqL.of q1⟩, ?_⟩
    refine s2 σ F1 H1 l1 env1 g1 _ R1 (Wp.mono (Wp.bind.mp w) (fun b env2 g2 w u F2 H2 l2 R2 x2 r2 f2 => ?_) fun _ _ _ _ w => w)
    split at w
    · rename_i x y e1 e2
      cases hg : pyIndex x y with
      | none => rw [hg] at w; exact w.elim
      | some ev =>
        rw [hg] at w
        unfold pyIndex at hg
        split at hg
        · rename_i ds
          have z : (SeqAt.shaped (.list ds) && SeqAt.shaped y) = true ∧ (indexD ds y).map (fun j : Nat => oneI (j : Nat)) = some ev := by
            by_cases h : (SeqAt.shaped (.list ds) && SeqAt.shaped y) = true
            · rw [if_pos h] at hg; exact ⟨h, hg⟩
            · rw [if_neg h] at hg; cases hg
          obtain ⟨h3, hg⟩ := z
          obtain ⟨j, h4, rfl⟩ := Option.map_eq_some_iff.mp hg
          rw [Bool.and_eq_true] at h3
          have b1 := (r1.up x2).look R2 e1
          have b2 := r2.look R2 e2
          rw [hK] at b1 b2
          exact ⟨F2, u, y, ds, j, rfl, R2.sub, b1, b2, h3.1, h3.2, h4, (KE.res (r := oneI j) R2 (KE.up w (x1.trans (C := C) x2))).val R2.sub (rep_int.mpr rfl)⟩
        · cases hg
    · exact w.elim
  · exact w.elim
end
end DL
namespace DL
open PySem L2
/-! ### statements -/
inductive Fl where
  | nx
  | bk
  | ct
  | rt (v : EV)
def KS (C : DCx) (F : Hp) (D : Ends) : Fl → Env' → G → Prop := fun fl env' g' => ∀ σ' F' H' l', Rel C σ' F' H' l' env' g' → Same F F' → match fl with
  | .nx => D.nx σ' H'
  | .bk => D.bk σ' H'
  | .ct => D.ct σ' H'
  | .rt ev => ∀ v, RepEV C σ' F' H' l' env' v ev → D.rt v H'
theorem KS.up {C : DCx} {F F1 : Hp} {D : Ends} {fl : Fl} {e : Env'} {g : G} (h : KS C F D fl e g) (s : Same F F1) : KS C F1 D fl e g := fun σ' F' H' l' R s' => h σ' F' H' l' R (s.trans s')
def KXS (C : DCx) : Str → PyData → Env' → G → Prop := fun c x env' g' => ∀ σ', KX C σ' c x env' g'
def SimS (C : DCx) (t : TS) (m : M Fl) : Prop := ∀ (σ : L2.St) (F H : Hp) (l : Loc) (env : Env') (g : G) (D : Ends), Rel C σ F H l env g → Wp (m env g) (KS C F D) (KXS C) → t D σ H
structure DS (X : Cx) (C : DCx) (st : Stmt) (m : M Fl) : Prop where
  run : C.K = X.K → ∃ t, PS X st t ∧ SimS C t m
structure DSs (X : Cx) (C : DCx) (st : List Stmt) (m : M Fl) : Prop where
  run : C.K = X.K → ∃ t, PSs X st t ∧ SimS C t m
/-- an expression within a statement: what an exception is wished to be is the same at all slots -/
theorem Wp.xs {α : Type} {C : DCx} {σ : L2.St} {r : R α} {K : α → Env' → G → Prop} (h : Wp r K (KXS C)) : Wp r K (KX C σ) := h.mono (fun _ _ _ w => w) fun c x e g w => w σ
def mNx : M Fl := M.pure .nx
def mSeqS (a b : M Fl) : M Fl := a.bind fun fl => match fl with
  | .nx => b
  | .bk => M.pure .bk
  | .ct => M.pure .ct
  | .rt v => M.pure (.rt v)
def mDrop (m : M EV) : M Fl := m.bind fun _ => M.pure .nx
/-- what is given back -/
def mRet (m : M EV) : M Fl := m.bind fun ev => match ev with
  | .bo _ => M.bad
  | ev => M.pure (.rt ev)
/-- a name given back: what it owns goes along -/
def mRetV (i : Nat) : M Fl := fun env g => match env[i]? with
  | some (.d x) => .ok (.rt (.d x)) env g
  | some (.own x) => .ok (.rt (.fr x)) (env.set i .un) g
  | some (.src b) => .ok (.rt (.src b)) env g
  | _ => .bad
def mIfS (c : M Bool) (a b : M Fl) : M Fl := c.bind fun x => if x then a else b
def slotOf : EV → Option Slot
  | .d x => some (.d x)
  | .fr x => some (.own x)
  | .src b => some (.src b)
  | .scr ns => some (.scr ns)
  | .bo _ => none
def mSet (i : Nat) (m : M EV) : M Fl := m.bind fun ev => fun env g => match slotOf ev with
  | some s => .ok .nx (env.set i s) g
  | none => .bad
def mAsgP (p : Pat) (m : M PyData) : M Fl := m.bind fun d => fun env g => match asg p d env with
  | some env' => .ok .nx env' g
  | none => .bad
/-- a, b = e1, e2 -/
def mPar (i j : Nat) (m : M (List EV)) : M Fl := m.bind fun evs => fun env g => match evs with
  | [.d x, .d y] => .ok .nx ((env.set i (.d x)).set j (.d y)) g
  | _ => .bad
def mPar3 (i j k : Nat) (m : M (List EV)) : M Fl := m.bind fun evs => fun env g => match evs with
  | [.d x, .d y, .d z] => .ok .nx (((env.set i (.d x)).set j (.d y)).set k (.d z)) g
  | _ => .bad
def forD (p : Pat) (mb : M Fl) : List PyData → M Fl
  | [] => mNx
  | x :: xs => fun e g => match asg p x e with
    | none => .bad
    | some e1 => (mb.bind fun fl => match fl with
      | .nx => forD p mb xs
      | .ct => forD p mb xs
      | .bk => mNx
      | .rt v => M.pure (.rt v)) e1 g
def mFor (p : Pat) (mi : M (List PyData)) (mb : M Fl) : M Fl := mi.bind fun xs => forD p mb xs
def whileD (mt : M Bool) (mb : M Fl) : Nat → M Fl
  | 0 => M.bad
  | n + 1 => mt.bind fun b => if b then mb.bind fun fl => match fl with
      | .nx => whileD mt mb n
      | .ct => whileD mt mb n
      | .bk => mNx
      | .rt v => M.pure (.rt v)
    else mNx
theorem Rel.forget {C : DCx} {σ : L2.St} {F H : Hp} {l : Loc} {env : Env'} {g : G} (R : Rel C σ F H l env g) (i : Nat) : Rel C σ F H l (env.set i .un) g := by
  have un : ∀ {j : Nat} {s : Slot}, (env.set i .un)[j]? = some s → s ≠ .un → env[j]? = some s := fun h n => by
    rcases get_set_cases h with ⟨z, w⟩ | ⟨z, q⟩
    · exact absurd w.symm n
    · exact q
  exact ⟨R.sub, by rw [List.length_set]; exact R.len, fun j x h => R.dat j x (un h (by simp)), fun j x h => R.own j x (un h (by simp)), fun j k x y a h1 h2 => R.inj j k x y a (un h1 (by simp)) (un h2 (by simp)), fun j ns h => R.iscr j ns (un h (by simp)), fun j b h => R.isrc j b (un h (by simp)), R.src, R.old, R.oldd, R.f0, R.fo, R.lo, R.l0⟩
/-- a slot gets a value -/
theorem Rel.sets {C : DCx} {σ : L2.St} {F H : Hp} {l : Loc} {env : Env'} {g : G} {v : V} {ev : EV} {s : Slot} (R : Rel C σ F H l env g) (i : Nat) (r : RepEV C σ F H l env v ev) (e : slotOf ev = some s) : Rel C (σ.set i (some v)) F H l (env.set i s) g := by
  have base := R.forget i
  have lt : ∀ {s : Slot}, (env.set i s)[i]? ≠ none → i < env.length := fun h => by
    refine Classical.byContradiction fun z => h ?_
    simp; omega
  have at_ : ∀ {j : Nat} {s s' : Slot}, (env.set i s)[j]? = some s' → (i = j ∧ s = s' ∧ (σ.set i (some v))[j]? = some (some v)) ∨ (i ≠ j ∧ env[j]? = some s' ∧ (σ.set i (some v))[j]? = σ[j]?) := fun {j s s'} h => by
    rcases get_set_cases h with ⟨z, w⟩ | ⟨z, q⟩
    · subst z
      refine .inl ⟨rfl, w, ?_⟩
      have hl : i < env.length := lt (by rw [h]; simp)
      rw [List.getElem?_set_self (by rw [R.len]; exact hl)]
    · exact .inr ⟨z, q, get_set_ne z⟩
  cases ev with
  | d x =>
    cases e
    exact R.setd i r
  | bo _ => cases e
  | fr x =>
    cases e
    obtain ⟨a, rfl, h1, h2, h3, h4, h5⟩ := r
    refine ⟨R.sub, by rw [List.length_set, List.length_set]; exact R.len, fun j y h => ?_, fun j y h => ?_, fun j k y z b q1 q2 w1 w2 => ?_, fun j ns h => ?_, fun j bb h => ?_, R.src, R.old, R.oldd, R.f0, R.fo, R.lo, R.l0⟩
    · rcases at_ h with ⟨_, w, _⟩ | ⟨_, q, k⟩
      · cases w
      · rw [k]; exact R.dat j y q
    · rcases at_ h with ⟨_, w, k⟩ | ⟨_, q, k⟩
      · cases w; exact ⟨a, k, h1, h2, h3, h4⟩
      · rw [k]; exact R.own j y q
    · rcases at_ q1 with ⟨e1, _, k1⟩ | ⟨e1, p1, k1⟩
      · rcases at_ q2 with ⟨e2, _, k2⟩ | ⟨e2, p2, k2⟩
        · rw [← e1, ← e2]
        · rw [k1] at w1
          cases w1
          exact absurd ⟨k, z, p2, by rw [← k2]; exact w2⟩ h5
      · rcases at_ q2 with ⟨e2, _, k2⟩ | ⟨e2, p2, k2⟩
        · rw [k2] at w2
          cases w2
          exact absurd ⟨j, y, p1, by rw [← k1]; exact w1⟩ h5
        · exact R.inj j k y z b p1 p2 (by rw [← k1]; exact w1) (by rw [← k2]; exact w2)
    · rcases at_ h with ⟨_, w, _⟩ | ⟨_, q, k⟩
      · cases w
      · rw [k]; exact R.iscr j ns q
    · rcases at_ h with ⟨_, w, _⟩ | ⟨_, q, k⟩
      · cases w
      · rw [k]; exact R.isrc j _ q
  | src b =>
    cases e
    obtain ⟨d, c, h1, rfl⟩ := r
    refine ⟨R.sub, by rw [List.length_set, List.length_set]; exact R.len, fun j y h => ?_, fun j y h => ?_, fun j k y z b q1 q2 w1 w2 => ?_, fun j ns h => ?_, fun j bb h => ?_, R.src, R.old, R.oldd, R.f0, R.fo, R.lo, R.l0⟩
    · rcases at_ h with ⟨_, w, _⟩ | ⟨_, q, k⟩
      · cases w
      · rw [k]; exact R.dat j y q
    · rcases at_ h with ⟨_, w, k⟩ | ⟨_, q, k⟩
      · cases w
      · rw [k]; exact R.own j y q
    · rcases at_ q1 with ⟨e1, w, k1⟩ | ⟨e1, p1, k1⟩
      · cases w
      · rcases at_ q2 with ⟨e2, w, k2⟩ | ⟨e2, p2, k2⟩
        · cases w
        · exact R.inj j k y z b p1 p2 (by rw [← k1]; exact w1) (by rw [← k2]; exact w2)
    · rcases at_ h with ⟨_, w, _⟩ | ⟨_, q, k⟩
      · cases w
      · rw [k]; exact R.iscr j ns q
    · rcases at_ h with ⟨_, w, k⟩ | ⟨_, q, k⟩
      · cases w; exact ⟨d, c, h1, k⟩
      · rw [k]; exact R.isrc j _ q
  | scr ns =>
    cases e
    obtain ⟨a, rfl, h1⟩ := r
    refine ⟨R.sub, by rw [List.length_set, List.length_set]; exact R.len, fun j y h => ?_, fun j y h => ?_, fun j k y z b q1 q2 w1 w2 => ?_, fun j ns' h => ?_, fun j bb h => ?_, R.src, R.old, R.oldd, R.f0, R.fo, R.lo, R.l0⟩
    · rcases at_ h with ⟨_, w, _⟩ | ⟨_, q, k⟩
      · cases w
      · rw [k]; exact R.dat j y q
    · rcases at_ h with ⟨_, w, k⟩ | ⟨_, q, k⟩
      · cases w
      · rw [k]; exact R.own j y q
    · rcases at_ q1 with ⟨e1, w, k1⟩ | ⟨e1, p1, k1⟩
      · cases w
      · rcases at_ q2 with ⟨e2, w, k2⟩ | ⟨e2, p2, k2⟩
        · cases w
        · exact R.inj j k y z b p1 p2 (by rw [← k1]; exact w1) (by rw [← k2]; exact w2)
    · rcases at_ h with ⟨_, w, k⟩ | ⟨_, q, k⟩
      · cases w; exact ⟨a, k, h1⟩
      · rw [k]; exact R.iscr j ns' q
    · rcases at_ h with ⟨_, w, k⟩ | ⟨_, q, k⟩
      · cases w
      · rw [k]; exact R.isrc j _ q
section
variable {X : Cx} {C : DCx} {e : Expr} {es : List Expr} {st : Stmt} {rest : List Stmt} {pos : Pos}
theorem dss_nil : DSs X C [] mNx := ⟨fun _ => ⟨_, pss_nil, fun σ F H l env g D R w => w σ F H l R (.refl _)⟩⟩
theorem simSeq {t u : TS} {a b : M Fl} (ha : SimS C t a) (hb : SimS C u b) : SimS C (tSeq t u) (mSeqS a b) := by
  intro σ F H l env g D R w
  refine ha σ F H l env g { D with nx := u D } R (Wp.mono (Wp.bind.mp w) (fun fl env1 g1 w σ1 F1 H1 l1 R1 sF => ?_) fun _ _ _ _ w => w)
  cases fl with
  | nx => exact hb σ1 F1 H1 l1 env1 g1 D R1 (w.mono (fun _ _ _ w => w.up sF) fun _ _ _ _ w => w)
  | bk => exact w σ1 F1 H1 l1 R1 sF
  | ct => exact w σ1 F1 H1 l1 R1 sF
  | rt v => exact w σ1 F1 H1 l1 R1 sF
theorem dss_cons {a b : M Fl} (ha : DS X C st a) (hb : DSs X C rest b) : DSs X C (st :: rest) (mSeqS a b) := by
  refine ⟨fun hK => ?_⟩
  obtain ⟨t, h1, s1⟩ := ha.run hK
  obtain ⟨u, h2, s2⟩ := hb.run hK
  exact ⟨_, pss_cons h1 h2, simSeq s1 s2⟩
theorem dss_one {a : M Fl} (ha : DS X C st a) : DSs X C [st] a := ⟨fun hK => let ⟨t, h1, s1⟩ := ha.run hK; ⟨_, pss_one h1, s1⟩⟩
theorem ds_pass : DS X C (.Pass pos) mNx := ⟨fun _ => ⟨_, ps_pass, fun σ F H l env g D R w => w σ F H l R (.refl _)⟩⟩
theorem ds_break : DS X C (.Break pos) (M.pure .bk) := ⟨fun _ => ⟨_, ps_break, fun σ F H l env g D R w => w σ F H l R (.refl _)⟩⟩
theorem ds_cont : DS X C (.Continue pos) (M.pure .ct) := ⟨fun _ => ⟨_, ps_continue, fun σ F H l env g D R w => w σ F H l R (.refl _)⟩⟩
theorem ds_doc {x : Str} {j : Nat} {p p' : Pos} : DS X C (.Expr (.Constant (.str x) j p) p') mNx := ⟨fun _ => ⟨_, ps_doc, fun σ F H l env g D R w => w σ F H l R (.refl _)⟩⟩
theorem ds_never : DS X C st M.bad := ⟨fun _ => ⟨_, ps_never, fun σ F H l env g D R w => w.elim⟩⟩
theorem dss_never : DSs X C rest M.bad := ⟨fun _ => ⟨_, pss_never, fun σ F H l env g D R w => w.elim⟩⟩
theorem ds_expr {m : M EV} (h : DE X C e m) (hs : swapsWith e none pos.line X.env = pure false := by rfl) : DS X C (.Expr e pos) (mDrop m) := by
  refine ⟨fun hK => ?_⟩
  obtain ⟨t, h1, s1⟩ := h.run hK
  refine ⟨_, ps_expr h1 hs, fun σ F H l env g D R w => ?_⟩
  exact s1 σ F H l env g _ R (Wp.mono (Wp.bind.mp w).xs (fun ev env1 g1 w v F1 H1 l1 R1 x1 r1 f1 => w σ F1 H1 l1 R1 x1.fs) fun _ _ _ _ w => w)
theorem ds_ret {m : M EV} (h : DE X C e m) : DS X C (.Return (some e) pos) (mRet m) := by
  refine ⟨fun hK => ?_⟩
  obtain ⟨t, h1, s1⟩ := h.run hK
  refine ⟨_, ps_ret h1, fun σ F H l env g D R w => ?_⟩
  refine s1 σ F H l env g _ R (Wp.mono (Wp.bind.mp w).xs (fun ev env1 g1 w v F1 H1 l1 R1 x1 r1 f1 => ?_) fun _ _ _ _ w => w)
  cases ev with
  | bo i => exact w.elim
  | _ => exact w σ F1 H1 l1 R1 x1.fs v r1
theorem ds_retV {i : Nat} (h : PE X e (tVar i)) : DS X C (.Return (some e) pos) (mRetV i) := by
  refine ⟨fun hK => ⟨_, ps_ret h, fun σ F H l env g D R w => ?_⟩⟩
  unfold mRetV at w
  split at w
  · rename_i x q
    obtain ⟨v, h1, h2⟩ := R.dat i x q
    exact ⟨v, h1, w σ F H l R (.refl _) v h2⟩
  · rename_i x q
    obtain ⟨a, h1, h2, h3, h4, h5⟩ := R.own i x q
    refine ⟨_, h1, w σ F H l (R.forget i) (.refl _) (V.ref a) ⟨a, rfl, h2, h3, h4, h5, fun ⟨j, y, q1, q2⟩ => ?_⟩⟩
    rcases get_set_cases q1 with ⟨z, w⟩ | ⟨z, q3⟩
    · cases w
    · exact z (R.inj i j x y a q q3 h1 q2)
  · rename_i q
    obtain ⟨d, c, h1, h2⟩ := R.isrc i _ q
    exact ⟨_, h2, w σ F H l R (.refl _) _ ⟨d, c, h1, rfl⟩⟩
  · exact w.elim
theorem ds_retN : DS X C (.Return none pos) (M.pure (.rt (.d .none))) := ⟨fun _ => ⟨_, ps_retN, fun σ F H l env g D R w => w σ F H l R (.refl _) .non RepEV.ofn⟩⟩
theorem ds_if {c : Expr} {a b : List Stmt} {mc : M Bool} {ma mb : M Fl} (hc : DT X C c mc) (ha : DSs X C a ma) (hb : DSs X C b mb) : DS X C (.If c a b pos) (mIfS mc ma mb) := by
  refine ⟨fun hK => ?_⟩
  obtain ⟨tc, h0, s0⟩ := hc.run hK
  obtain ⟨ta, h1, s1⟩ := ha.run hK
  obtain ⟨tb, h2, s2⟩ := hb.run hK
  refine ⟨_, ps_if h0 h1 h2, fun σ F H l env g D R w => ?_⟩
  refine s0 σ F H l env g _ R (Wp.mono (Wp.bind.mp w).xs (fun c env1 g1 w F1 H1 l1 R1 x1 => ?_) fun _ _ _ _ w => w)
  cases c with
  | true => exact s1 σ F1 H1 l1 env1 g1 D R1 (w.mono (fun _ _ _ w => w.up x1.fs) fun _ _ _ _ w => w)
  | false => exact s2 σ F1 H1 l1 env1 g1 D R1 (w.mono (fun _ _ _ w => w.up x1.fs) fun _ _ _ _ w => w)
theorem simSet {t : TE} {m : M EV} {i : Nat} (s1 : SimE C t m) : SimS C (tAsg t (gName i)) (mSet i m) := by
  intro σ F H l env g D R w
  refine s1 σ F H l env g _ R (Wp.mono (Wp.bind.mp w).xs (fun ev env1 g1 w v F1 H1 l1 R1 x1 r1 f1 => ?_) fun _ _ _ _ w => w)
  split at w
  · rename_i s q
    exact w _ F1 H1 l1 (R1.sets i r1 q) x1.fs
  · exact w.elim
theorem ds_set {i : Nat} {x : Str} {m : M EV} {pos' : Pos} (hN : X.N.Nodup) (hi : X.N[i]? = some x) (hx : L2.Loc X.env.scope x) (h : DE X C e m) (hs : swapsWith e (some (.Name x pos')) pos.line X.env = pure false := by rfl) (hf : X.fn x = true ∨ X.env.scope.names.lookup x = some .local := by first | exact .inl rfl | exact .inr rfl | assumption) :
    DS X C (.Assign [.Name x pos'] e pos) (mSet i m) := by
  refine ⟨fun hK => ?_⟩
  obtain ⟨t, h1, s1⟩ := h.run hK
  exact ⟨_, ps_set hN hi hx h1 hs hf, simSet s1⟩
theorem ds_setC {i : Nat} {y : Str} {py : Pos} {elt tg iter : Expr} {ifs : List Expr} {scope : Scope} {own : List (Str × Nat)} {spos : Pos} {p : Pat} {mi : M (List PyData)} {mt : M Bool} {me : M PyData} (hc : X.calm = true) (hN : X.N.Nodup)
    (hy : X.N[i]? = some y) (hyl : X.env.scope.names.lookup y = some .local) (hsw : swapsWith (.ListComp elt [⟨tg, iter, ifs, 0⟩] scope pos) (some (.Name y py)) spos.line X.env = pure true) (hi : DI X C tg iter mi) (ok : BlkOk X.N X.env.scope scope own)
    (hg : ∀ (s : Shared) (H : Hp) (A : Addr) (cl : List (Str × Addr)) (fp : List Addr), DG (X.blk s H scope (compEnvC scope cl A X.env) fp) C.calm tg p)
    (ht : ∀ (s : Shared) (H : Hp) (A : Addr) (cl : List (Str × Addr)) (fp : List Addr), DTs (X.blk s H scope (compEnvC scope cl A X.env) fp) C.calm ifs mt)
    (he : ∀ (s : Shared) (H : Hp) (A : Addr) (cl : List (Str × Addr)) (fp : List Addr), DD (X.blk s H scope (compEnvC scope cl A X.env) fp) C.calm elt me)
    (hp : (p.idx.all fun i => decide (i ∈ own.map (·.2))) = true) (hs : ∀ x, foldedSetIterable iter X.env x = pure x := by intro _; rfl) :
    DS X C (.Assign [.Name y py] (.ListComp elt [⟨tg, iter, ifs, 0⟩] scope pos) spos) (mSet i (mComp p (own.map (·.2)) mi mt me)) := by
  refine ⟨fun hK => ?_⟩
  obtain ⟨wi, h1, s1⟩ := hi.run hK
  refine ⟨_, ps_setLc hc hN hy hyl hsw h1 ok (fun s H A cl fp => (hg s H A cl fp).pg hK) (fun s H A cl fp => (ht s H A cl fp).pt hK) (fun s H A cl fp => (he s H A cl fp).pe hK) hs, simSet (simComp s1 simG_of simT_of simD_of fun i hi => ?_)⟩
  exact of_decide_eq_true (List.all_eq_true.mp hp i hi)
theorem ds_setCF {i : Nat} {y : Str} {py : Pos} {elt tg iter : Expr} {ifs : List Expr} {scope : Scope} {own : List (Str × Nat)} {spos : Pos} {p : Pat} {mi : M (List PyData)} {mt : M Bool} {me : M PyData} (hc : X.calm = true) (hN : X.N.Nodup)
    (hy : X.N[i]? = some y) (hyl : X.env.scope.names.lookup y = some .local) (hsw : swapsWith (.ListComp elt [⟨tg, iter, ifs, 0⟩] scope pos) (some (.Name y py)) spos.line X.env = pure true) (hi : DI X C tg iter mi) (ok : BlkOk X.N X.env.scope scope own)
    (hg : ∀ (s : Shared) (H : Hp) (A : Addr) (cl : List (Str × Addr)) (fp : List Addr), DG (X.blk s H scope (compEnvC scope cl A X.env) fp) C.calm tg p)
    (ht : ∀ (s : Shared) (H : Hp) (A : Addr) (cl : List (Str × Addr)) (fp : List Addr), DTs (X.blk s H scope (compEnvC scope cl A X.env) fp) C.calm ifs mt)
    (he : ∀ (s : Shared) (H : Hp) (A : Addr) (cl : List (Str × Addr)) (fp : List Addr), DD (X.blk s H scope (compEnvC scope cl A X.env) fp) C.calm elt me)
    (hp : (p.idx.all fun i => decide (i ∈ own.map (·.2))) = true) (hs : ∀ x, foldedSetIterable iter X.env x = pure x := by intro _; rfl) :
    DS X C (.Assign [.Name y py] (.ListComp elt [⟨tg, iter, ifs, 0⟩] scope pos) spos) (mSet i (mArg (mComp p (own.map (·.2)) mi mt me))) := by
  refine ⟨fun hK => ?_⟩
  obtain ⟨wi, h1, s1⟩ := hi.run hK
  refine ⟨_, ps_setLc hc hN hy hyl hsw h1 ok (fun s H A cl fp => (hg s H A cl fp).pg hK) (fun s H A cl fp => (ht s H A cl fp).pt hK) (fun s H A cl fp => (he s H A cl fp).pe hK) hs, simSet (simArg (simComp s1 simG_of simT_of simD_of fun i hi => ?_))⟩
  exact of_decide_eq_true (List.all_eq_true.mp hp i hi)
theorem ds_asgP {tg : Expr} {p : Pat} {m : M PyData} (h : DD X C e m) (hg : DG X C tg p) (hs : swapsWithSole [tg] e pos.line X.env = pure false := by rfl) (hw : swappedStores [tg] e X.env = pure none := by rfl)
    (h1 : (assignEach [tg] X.env).map (·.2) = [assign tg X.env] := by rfl) : DS X C (.Assign [tg] e pos) (mAsgP p m) := by
  refine ⟨fun hK => ?_⟩
  obtain ⟨t, k1, s1⟩ := h.run hK
  obtain ⟨g, k2, s2⟩ := hg.run hK
  refine ⟨_, ps_asg k1 k2 hs hw h1, fun σ F H l env gs D R w => ?_⟩
  refine s1 σ F H l env gs _ R (Wp.mono (Wp.bind.mp w).xs (fun d env1 g1 w v F1 H1 l1 R1 x1 r1 => ?_) fun _ _ _ _ w => w)
  split at w
  · rename_i env2 q
    exact s2 σ F1 H1 l1 env1 env2 g1 v d _ R1 r1 q fun σ2 R2 _ _ => w σ2 F1 H1 l1 R2 x1.fs
  · exact w.elim
theorem ds_par {i j : Nat} {x y : Str} {a b : Expr} {m : M (List EV)} {px py pt : Pos} {kt k2 : Nat} {pt2 : Pos} (hc : X.calm = true) (hN : X.N.Nodup) (hi : X.N[i]? = some x) (hj : X.N[j]? = some y) (hij : i ≠ j)
    (hx : X.env.scope.names.lookup x = some .local) (hy : X.env.scope.names.lookup y = some .local) (h : DA X C [a, b] m)
    (hw : swappedStores [.Tuple [.Name x px, .Name y py] kt pt] (.Tuple [a, b] k2 pt2) X.env = pure (some [x, y]))
    (hs : swapsWithSole [.Tuple [.Name x px, .Name y py] kt pt] (.Tuple [a, b] k2 pt2) pos.line X.env = pure false := by rfl) :
    DS X C (.Assign [.Tuple [.Name x px, .Name y py] kt pt] (.Tuple [a, b] k2 pt2) pos) (mPar i j m) := by
  refine ⟨fun hK => ?_⟩
  obtain ⟨t, k1, s1⟩ := h.run hK
  refine ⟨_, ps_par hc hN hi hj hij hx hy k1 hw hs, fun σ F H l env g D R w => ?_⟩
  refine s1 σ F H l env g _ R (Wp.mono (Wp.bind.mp w).xs (fun evs env1 g1 w vs F1 H1 l1 R1 x1 r1 => ?_) fun _ _ _ _ w => w)
  split at w
  · rename_i dx dy
    cases r1 with
    | cons r1 t1 =>
      cases t1 with
      | cons r2 t2 =>
        cases t2
        exact ⟨_, _, rfl, w _ F1 H1 l1 ((R1.setd i r1.1).setd j r2.1) x1.fs⟩
  · exact w.elim
theorem simFor {wi : TI} {gt : TG} {tb : TS} {p : Pat} {mi : M (List PyData)} {mb : M Fl} (hi : SimI C wi mi) (hg : SimG C gt p) (hb : SimS C tb mb) : SimS C (tFor wi gt tb) (mFor p mi mb) := by
  intro σ F H l env gs D R w
  refine hi σ F H l env gs _ R (Wp.mono (Wp.bind.mp w).xs (fun xs env1 g1 w J F1 H1 l1 R1 x1 W1 => ?_) fun _ _ _ _ w => w)
  let N : Nat → L2.St → Hp → Prop := fun i σ' H' => ∃ (F' : Hp) (l' : Loc) (e' : Env') (g' : G), Same F1 F' ∧ Rel C σ' F' H' l' e' g' ∧ Wp (forD p mb (xs.drop i) e' g') (KS C F D) (KXS C)
  refine ⟨fun i m σ' H' => m = xs.length - i ∧ i ≤ xs.length ∧ N i σ' H', ⟨_, rfl, Nat.zero_le _, F1, l1, env1, g1, .refl _, R1, w⟩, ?_⟩
  rintro i m σ' H' ⟨rfl, hle, F', l', e', g', sF, R', w⟩
  by_cases hlt : i < xs.length
  · refine .inr ⟨W1.go F' H' i sF R'.sub hlt, N (i + 1), fun σ2 H2 q => ⟨_, by omega, rfl, hlt, q⟩, fun x H2 y => ?_⟩
    obtain ⟨F2, d, hd, nw2⟩ := W1.yl F' H' i x H2 sF R'.sub hlt y
    obtain ⟨R3, x3, r3⟩ := R'.new nw2
    rw [drop_get hd] at w
    unfold forD at w
    cases ha : asg p d e' with
    | none => rw [ha] at w; exact w.elim
    | some e1 =>
      rw [ha] at w
      refine hg σ' F2 H2 l' e' e1 g' x d _ R3 r3 ha fun σ2 R4 off ow => ?_
      refine hb σ2 F2 H2 l' e1 g' { D with nx := N (i + 1), ct := N (i + 1), bk := D.nx } R4 (Wp.mono (Wp.bind.mp w) (fun fl e5 g5 w σ5 F5 H5 l5 R5 s5 => ?_) fun _ _ _ _ w => w)
      have s15 := (sF.trans nw2.fs).trans s5
      cases fl with
      | nx => exact ⟨F5, l5, e5, g5, s15, R5, w⟩
      | ct => exact ⟨F5, l5, e5, g5, s15, R5, w⟩
      | bk => exact w σ5 F5 H5 l5 R5 (x1.fs.trans s15)
      | rt v => exact w σ5 F5 H5 l5 R5 (x1.fs.trans s15)
  · have e : i = xs.length := by omega
    subst e
    refine .inl ⟨W1.st F' H' sF R'.sub, ?_⟩
    rw [List.drop_length] at w
    exact w σ' F' H' l' R' (x1.fs.trans sF)
theorem ds_for {tg iter : Expr} {body : List Stmt} {p : Pat} {mi : M (List PyData)} {mb : M Fl} (hp : PassesOwn (model X.prog X.w) X.A X.env X.xe) (hc : X.calm = true) (hi : DI X C tg iter mi) (hg : DG X C tg p) (hb : DSs X C body mb)
    (hs : ∀ x, foldedSetIterable iter X.env x = pure x := by intro _; rfl) : DS X C (.For tg iter body [] pos) (mFor p mi mb) := by
  refine ⟨fun hK => ?_⟩
  obtain ⟨wi, h1, s1⟩ := hi.run hK
  obtain ⟨gt, h2, s2⟩ := hg.run hK
  obtain ⟨tb, h3, s3⟩ := hb.run hK
  exact ⟨_, ps_for hp hc h1 h2 h3 hs, simFor s1 s2 s3⟩
theorem simWhile {tc : TT} {tb : TS} {mt : M Bool} {mb : M Fl} {n : Nat} (ht : SimT C tc mt) (hb : SimS C tb mb) : SimS C (tWhile tc tb) (whileD mt mb n) := by
  intro σ F H l env g D R w
  let N : Nat → L2.St → Hp → Prop := fun m σ' H' => ∃ (F' : Hp) (l' : Loc) (e' : Env') (g' : G), Same F F' ∧ Rel C σ' F' H' l' e' g' ∧ Wp (whileD mt mb m e' g') (KS C F D) (KXS C)
  refine ⟨N, ⟨n, F, l, env, g, .refl _, R, w⟩, ?_⟩
  rintro m σ' H' ⟨F', l', e', g', sF, R', w⟩
  cases m with
  | zero => exact w.elim
  | succ m =>
    refine ht σ' F' H' l' e' g' _ R' (Wp.mono (Wp.bind.mp w).xs (fun b env1 g1 w F1 H1 l1 R1 x1 => ?_) fun _ _ _ _ w => w)
    cases b with
    | false =>
      rw [if_neg Bool.false_ne_true]
      exact w σ' F1 H1 l1 R1 (sF.trans x1.fs)
    | true =>
      rw [if_pos rfl]
      refine ⟨N m, fun σ2 H2 q => ⟨m, Nat.lt_succ_self _, q⟩, ?_⟩
      rw [if_pos rfl] at w
      refine hb σ' F1 H1 l1 env1 g1 { D with nx := N m, ct := N m, bk := D.nx } R1 (Wp.mono (Wp.bind.mp w) (fun fl e5 g5 w σ5 F5 H5 l5 R5 s5 => ?_) fun _ _ _ _ w => w)
      have s15 := (sF.trans x1.fs).trans s5
      cases fl with
      | nx => exact ⟨F5, l5, e5, g5, s15, R5, w⟩
      | ct => exact ⟨F5, l5, e5, g5, s15, R5, w⟩
      | bk => exact w σ5 F5 H5 l5 R5 s15
      | rt v => exact w σ5 F5 H5 l5 R5 s15
theorem ds_while {c : Expr} {body : List Stmt} {mt : M Bool} {mb : M Fl} (n : Nat) (hp : PassesOwn (model X.prog X.w) X.A X.env X.xe) (hc : DT X C c mt) (hb : DSs X C body mb) : DS X C (.While c body [] pos) (whileD mt mb n) := by
  refine ⟨fun hK => ?_⟩
  obtain ⟨tc, h1, s1⟩ := hc.run hK
  obtain ⟨tb, h3, s3⟩ := hb.run hK
  exact ⟨_, ps_while hp h1 h3, simWhile s1 s3⟩
end
end DL
namespace DL
open PySem L2
/-! ### defs -/
abbrev FM := List EV → G → R EV
abbrev CXN : CXT := fun _ _ _ _ _ _ => False
abbrev XN : XK := fun _ _ _ => False
def ArgRep (K : PySem.W.Frag) (F : Hp) (l : Loc) (v : V) : EV → Prop
  | .d x => Rep K F v x
  | .src b => ∃ d c, l = some (d, c) ∧ v = V.ref (if b then c else d)
  | .scr ns => ∃ a, v = V.ref a ∧ SqL K F a (ns.map V.int)
  | _ => False
/-- what holds behind a call -/
structure Back (K : PySem.W.Frag) (F H : Hp) (l : Loc) (v : V) (F' H' : Hp) (l' : Loc) (ev : EV) (g' : G) : Prop where
  fs : Same F F'
  sub : Same F' H'
  old : ∀ a o, H a = some o → ¬ SrcAt l a → H' a = some o
  oldd : ∀ a, H a ≠ none → H' a ≠ none
  fo : ∀ a, F' a ≠ none → F a ≠ none ∨ H a = none
  lo : ∀ a, SrcAt l' a → SrcAt l a ∨ H a = none
  l0 : ∀ p, l = some p → l' = some p
  src : SrcRep F' H' l' g'
  res : match ev with
    | .d x => Rep K F' v x
    | .fr x => ∃ a, v = V.ref a ∧ OwnRep K F' H' a x ∧ F' a = none ∧ H a = none ∧ ¬ SrcAt l' a
    | .src b => ∃ d c, l' = some (d, c) ∧ v = V.ref (if b then c else d)
    | _ => False
def WpF (r : R EV) (K : EV → G → Prop) : Prop := Wp r (fun ev _ g' => K ev g') fun _ _ _ _ => False
theorem WpF.mono {r : R EV} {K K' : EV → G → Prop} (h : WpF r K) (hk : ∀ ev g, K ev g → K' ev g) : WpF r K' := Wp.mono h (fun _ _ _ w => hk _ _ w) fun _ _ _ _ w => w
structure FnD (P : Program) (w : World) (K : PySem.W.Frag) (mg : Str → Option Value) (base : Heap) (k : Nat) (f : Addr) (fd : FuncData) (ps : List Str) (fm : FM) : Prop where
  run : ∀ (A : Around) (outer : List Env) (s : Shared) (H F : Hp) (l : Loc) (g : G) (args : Args) (us : List Value) (vs : List V) (evs : List EV) (Q : VK), Room k A → A.guards = some [] → Env0 P w K mg base A outer s H → BindsTo s fd args (ps.zip us) → Vals vs us → vs.length = ps.length →
    Same F H → SrcRep F H l g → Paired (ArgRep K F l) vs evs → WpF (fm evs g) (fun ev g' => ∀ v F' H' l', Back K F H l v F' H' l' ev g' → Q v H') → codeAny (model P w) A (.call (.ref f) args) (CR CXN outer P w H s Q XN) s
theorem FnD.mono {P : Program} {w : World} {K : PySem.W.Frag} {mg : Str → Option Value} {base : Heap} {j k : Nat} {f : Addr} {fd : FuncData} {ps : List Str} {fm : FM} (h : FnD P w K mg base j f fd ps fm) (e : j ≤ k) : FnD P w K mg base k f fd ps fm :=
  ⟨fun A outer s H F l g args us vs evs Q hr => h.run A outer s H F l g args us vs evs Q (hr.mono e)⟩
/-- nothing is promised -/
theorem FnD.bad {P : Program} {w : World} {K : PySem.W.Frag} {mg : Str → Option Value} {base : Heap} {k : Nat} {f : Addr} {fd : FuncData} {ps : List Str} : FnD P w K mg base k f fd ps fun _ _ => .bad :=
  ⟨fun A outer s H F l g args us vs evs Q _ _ _ _ _ _ _ _ _ h => h.elim⟩
/-- another mirror that tells no more -/
theorem FnD.imp {P : Program} {w : World} {K : PySem.W.Frag} {mg : Str → Option Value} {base : Heap} {k : Nat} {f : Addr} {fd : FuncData} {ps : List Str} {fm fm' : FM} (h : FnD P w K mg base k f fd ps fm) (e : ∀ evs g (Q : EV → G → Prop), WpF (fm' evs g) Q → WpF (fm evs g) Q) : FnD P w K mg base k f fd ps fm' :=
  ⟨fun A outer s H F l g args us vs evs Q hr hg e0 hb hv hl hs hS ha hw => h.run A outer s H F l g args us vs evs Q hr hg e0 hb hv hl hs hS ha (e _ _ _ hw)⟩
def isArg : EV → Bool
  | .d _ => true
  | .src _ => true
  | .scr _ => true
  | _ => false
def mCall (n : Nat) (fm : FM) (m : M (List EV)) : M EV := m.bind fun evs => fun env g => if evs.all isArg = true ∧ evs.length = n then (match fm evs g with
    | .ok ev _ g' => .ok ev env g'
    | _ => .bad) else .bad
theorem paired_len {α β : Type} {P : α → β → Prop} : ∀ {xs : List α} {ys : List β}, Paired P xs ys → xs.length = ys.length
  | _, _, .nil => rfl
  | _, _, .cons _ t => by simp [paired_len t]
theorem args_of {C : DCx} {σ : L2.St} {F H H0 : Hp} {l : Loc} {env : Env'} : ∀ {evs : List EV} {vs : List V}, Paired (fun v ev => RepEV C σ F H l env v ev ∧ FreshAt H0 v ev) vs evs → evs.all isArg = true → Paired (ArgRep C.K F l) vs evs
  | [], _, .nil, _ => .nil
  | ev :: evs, _, .cons r t, h => by
    rw [List.all_cons, Bool.and_eq_true] at h
    refine .cons ?_ (args_of t h.2)
    cases ev with
    | d x => exact r.1
    | src b => exact r.1
    | scr ns => exact r.1
    | _ => exact absurd h.1 (by simp [isArg])
/-- behind a call, in the caller's body -/
theorem Rel.after {C : DCx} {σ : L2.St} {F H F' H' : Hp} {l l' : Loc} {env : Env'} {g g' : G} {v : V} {ev : EV} (R : Rel C σ F H l env g) (b : Back C.K F H l v F' H' l' ev g') :
    Rel C σ F' H' l' env g' ∧ Ext σ F H l env F' H' l' env ∧ RepEV C σ F' H' l' env v ev ∧ FreshAt H v ev := by
  have nh : ∀ {a : Addr}, H a = none → C.H0 a = none := fun {a} h => none_of_none R.oldd h
  have own : ∀ {i : Nat} {x : PyData}, env[i]? = some (.own x) → ∃ a, σ[i]? = some (some (V.ref a)) ∧ OwnRep C.K F' H' a x ∧ F' a = none ∧ C.H0 a = none ∧ ¬ SrcAt l' a := fun {i x} e => by
    obtain ⟨a, h1, h2, h3, h4, h5⟩ := R.own i x e
    obtain ⟨o, ho⟩ := h2.some
    refine ⟨a, h1, h2.up b.fs fun u q => b.old a u q h5, Classical.byContradiction fun z => ?_, h4, fun z => ?_⟩
    · rcases b.fo a z with q | q
      · exact q h3
      · rw [ho] at q; cases q
    · rcases b.lo a z with q | q
      · exact h5 q
      · rw [ho] at q; cases q
  refine ⟨⟨b.sub, R.len, fun i x e => ?_, fun i x e => own e, R.inj, fun i ns e => ?_, fun i z e => ?_, b.src, fun a o e n => ?_, fun a e => b.oldd a (R.oldd a e), R.f0.trans b.fs, fun a e => ?_, fun a e => ?_, fun p e => b.l0 p (R.l0 p e)⟩,
    ⟨b.fs, b.oldd, fun a o e _ n => b.old a o e n, fun a e => (b.fo a e).elim .inl fun z => .inr (.inl z), fun _ e => e, b.l0, b.lo⟩, ?_, ?_⟩
  · obtain ⟨u, h1, h2⟩ := R.dat i x e
    exact ⟨u, h1, Rep.up b.fs _ _ h2⟩
  · obtain ⟨a, h1, h2⟩ := R.iscr i ns e
    exact ⟨a, h1, b.fs.seq h2⟩
  · obtain ⟨d, c, h1, h2⟩ := R.isrc i _ e
    exact ⟨d, c, b.l0 _ h1, h2⟩
  · refine b.old a o (R.old a o e n) fun z => ?_
    rcases R.lo a z with q | q
    · exact n q
    · rw [e] at q; cases q
  · rcases b.fo a e with q | q
    · exact R.fo a q
    · exact .inr (nh q)
  · rcases b.lo a e with q | q
    · exact R.lo a q
    · exact .inr (nh q)
  · have r := b.res
    cases ev with
    | d x => exact r
    | fr x =>
      obtain ⟨a, h1, h2, h3, h4, h5⟩ := r
      refine ⟨a, h1, h2, h3, nh h4, h5, fun z => ?_⟩
      obtain ⟨_, _, _, o, ho⟩ := R.ownF z
      rw [h4] at ho; cases ho
    | src z => exact r
    | _ => exact r.elim
  · have r := b.res
    cases ev with
    | fr x =>
      obtain ⟨a, h1, h2, h3, h4, h5⟩ := r
      intro q e
      rw [h1] at e
      cases e
      exact h4
    | _ => trivial
def tFn (K : PySem.W.Frag) (n : Nat) (fm : FM) (t : TA) : TE := fun σ H Q => t σ H fun vs H1 => ∃ F l g evs, vs.length = n ∧ Same F H1 ∧ SrcRep F H1 l g ∧ Paired (ArgRep K F l) vs evs ∧
  WpF (fm evs g) fun ev g' => ∀ v F' H' l', Back K F H1 l v F' H' l' ev g' → Q v H'
section
variable {X : Cx} {C : DCx} {k : Nat} {f : Addr} {fd : FuncData} {ps : List Str} {fm : FM} {x : Str} {p pos : Pos} {e : Expr} {es : List Expr}
theorem simFn {n : Nat} {t : TA} {m : M (List EV)} (s : SimA C t m) : SimE C (tFn C.K n fm t) (mCall n fm m) := by
  intro σ F H l env g Q R w
  refine s σ F H l env g _ R (Wp.mono (Wp.bind.mp w) (fun evs env1 g1 w vs F1 H1 l1 R1 x1 r1 => ?_) fun _ _ _ _ w => w)
  obtain ⟨⟨ha, hn⟩, w⟩ := wp_iteR w
  refine ⟨F1, l1, g1, evs, by rw [paired_len r1]; exact hn, R1.sub, R1.src, args_of r1 ha, ?_⟩
  cases q : fm evs g1 with
  | bad => rw [q] at w; exact w.elim
  | exc c y e' g' => rw [q] at w; exact w.elim
  | ok ev e' g' =>
    rw [q] at w
    intro v F' H' l' b
    obtain ⟨R2, x2, r2, f2⟩ := R1.after b
    exact w v F' H' l' R2 (x1.trans (C := C) x2) r2 (f2.dn x1.hd)
theorem pe_fn {t : TA} (Fd : FnD X.prog X.w X.K X.mg X.base k f fd ps fm) (hr : Room k X.A) (hgd : X.A.guards = some []) (hg : Gl X x) (hm : X.mg x = some (.ref f)) (hk : PySem.W.keepIn X.K (.ref f) = true) (hb : Binds X.K fd ps [])
    (ha : PA X (e :: es) t) (hdb : (x == ("__debug__" : Str)) = false := by decide) (he : starEach (e :: es) X.env = (false, eval e X.env) :: starEach es X.env := by rfl) (hpl : (backTo pos (starEach es X.env)).any (·.1) = false := by rfl) :
    PE X (.Call (.Name x p) (e :: es) [] pos) (tFn X.K ps.length fm t) := by
  refine ⟨fun pins s σ H Q I h => ?_⟩
  refine wpAny_Call_Name_kw (ld_glob I hg hm ?_ hdb)
  refine PySem.W.callWith_K (h₀ := X.base) I.ok.mod.kin hk (thn (ha.run pos pins s σ H _ I h) fun us s1 ⟨vs, H1, I1, r, F, l, g, evs, hn, hs, hS, hA, w⟩ => ⟨I1.kIn, ?_⟩) he hpl
  have hu : (us ++ []).length = ps.length := by rw [List.append_nil, ← r.length]; exact hn
  have b := hb s1 us I1.kIn hu
  rw [List.append_nil] at b
  refine wpAny_call (codeAny_mono (Fd.run X.A X.stack s1 H1 F l g ⟨us, []⟩ us vs evs Q hr hgd I1.env0 b r hn hs hS hA w) fun r s' hq => ?_)
  cases r with
  | error e => exact False.elim hq
  | ok fl =>
    cases fl with
    | ret u => exact I1.after hq
    | next => exact False.elim hq
    | brk => exact False.elim hq
    | cont => exact False.elim hq
theorem de_call {m : M (List EV)} (Fd : FnD X.prog X.w X.K X.mg X.base k f fd ps fm) (hr : Room k X.A) (hgd : X.A.guards = some []) (hg : Gl X x) (hm : X.mg x = some (.ref f)) (hk : PySem.W.keepIn X.K (.ref f) = true) (hb : Binds X.K fd ps [])
    (ha : DA X C (e :: es) m) (hdb : (x == ("__debug__" : Str)) = false := by decide) (he : starEach (e :: es) X.env = (false, eval e X.env) :: starEach es X.env := by rfl) (hpl : (backTo pos (starEach es X.env)).any (·.1) = false := by rfl) :
    DE X C (.Call (.Name x p) (e :: es) [] pos) (mCall ps.length fm m) := by
  refine ⟨fun hK => ?_⟩
  obtain ⟨t, h1, s1⟩ := ha.run hK
  refine ⟨_, pe_fn Fd hr hgd hg hm hk hb h1 hdb he hpl, ?_⟩
  rw [← hK]
  exact simFn s1
end
/-! ### a def's body -/
def slotArg : EV → Slot
  | .d x => .d x
  | .src b => .src b
  | .scr ns => .scr ns
  | _ => .un
def startE (n : Nat) (evs : List EV) : Env' := evs.map slotArg ++ List.replicate (n - evs.length) .un
def bodyRun (n : Nat) (mb : M Fl) : FM := fun evs g => match mb (startE n evs) g with
  | .ok (.rt (.bo _)) _ _ => .bad
  | .ok (.rt (.scr _)) _ _ => .bad
  | .ok (.rt ev) _ g' => .ok ev [] g'
  | .ok .nx _ g' => .ok (.d .none) [] g'
  | _ => .bad
def cIn (K : PySem.W.Frag) (F H : Hp) (l : Loc) : DCx := ⟨K, F, H, l, fun _ _ _ _ => False, fun _ _ _ _ _ _ => False⟩
theorem startGet {K : PySem.W.Frag} {F : Hp} {l : Loc} : ∀ {evs : List EV} {vs : List V}, Paired (ArgRep K F l) vs evs → ∀ (i : Nat) (s : Slot), (evs.map slotArg)[i]? = some s → ∃ v ev, vs[i]? = some v ∧ s = slotArg ev ∧ ArgRep K F l v ev
  | _, _, .nil, i, s, h => by simp at h
  | ev :: evs, v :: vs, .cons r t, 0, s, h => by
    simp at h
    exact ⟨v, ev, rfl, h.symm, r⟩
  | ev :: evs, v :: vs, .cons r t, i + 1, s, h => by
    obtain ⟨v', ev', h1, h2, h3⟩ := startGet t i s (by simpa using h)
    exact ⟨v', ev', by simpa using h1, h2, h3⟩
theorem rel_start {K : PySem.W.Frag} {F H : Hp} {l : Loc} {g : G} {N : List Str} {evs : List EV} {vs : List V} (hs : Same F H) (hS : SrcRep F H l g) (ha : Paired (ArgRep K F l) vs evs) (hl : vs.length ≤ N.length) :
    Rel (cIn K F H l) (L2.start N vs) F H l (startE N.length evs) g := by
  have hle := paired_len ha
  have at_ : ∀ {i : Nat} {s : Slot}, (startE N.length evs)[i]? = some s → s ≠ .un → ∃ v ev, (L2.start N vs)[i]? = some (some v) ∧ s = slotArg ev ∧ ArgRep K F l v ev := fun {i s} h n => by
    unfold startE at h
    by_cases hi : i < evs.length
    · rw [List.getElem?_append_left (by simpa using hi)] at h
      obtain ⟨v, ev, h1, h2, h3⟩ := startGet ha i s h
      refine ⟨v, ev, ?_, h2, h3⟩
      unfold L2.start
      rw [List.getElem?_append_left (by rw [List.length_map, hle]; exact hi), List.getElem?_map, h1]
      rfl
    · rw [List.getElem?_append_right (by simpa using hi), List.getElem?_replicate] at h
      split at h
      · cases h; exact absurd rfl n
      · cases h
  have no : ∀ {i : Nat} {x : PyData}, (startE N.length evs)[i]? ≠ some (.own x) := fun {i x} h => by
    obtain ⟨v, ev, _, h2, h3⟩ := at_ h (by simp)
    cases ev <;> simp [slotArg] at h2
  refine ⟨hs, ?_, fun i x h => ?_, fun i x h => absurd h no, fun i j x y a h => absurd h no, fun i ns h => ?_, fun i bb h => ?_, hS, fun a o e _ => e, fun a e => e, .refl _, fun a e => .inl e, fun a e => .inl e, fun p e => e⟩
  · unfold L2.start startE
    simp [hle]
  · obtain ⟨v, ev, h1, h2, h3⟩ := at_ h (by simp)
    cases ev <;> simp [slotArg] at h2
    subst h2
    exact ⟨v, h1, h3⟩
  · obtain ⟨v, ev, h1, h2, h3⟩ := at_ h (by simp)
    cases ev <;> simp [slotArg] at h2
    subst h2
    obtain ⟨a, rfl, q⟩ := h3
    exact ⟨a, h1, q⟩
  · obtain ⟨v, ev, h1, h2, h3⟩ := at_ h (by simp)
    cases ev <;> simp [slotArg] at h2
    subst h2
    obtain ⟨d, c, e, rfl⟩ := h3
    exact ⟨d, c, e, h1⟩
open PySem.Spec PyProof.Rows in
/-- THE RULE: a def keeps what its body's mirror tells -/
theorem fnd_of {P : Program} {w : World} {K : PySem.W.Frag} {mg : Str → Option Value} {base : Heap} {k : Nat} {f : Addr} {name qual : Str} {params : Arguments} {body : List Stmt} {scope : Scope} {dV kV doc pm cdv ct oc : Value} {an od : Option Addr}
    {osl : Array (Option Value)} {N ps : List Str} {mb : M Fl} (lk : K.lookup f = some ⟨oc, od, .func (PySem.W.fnOf name qual params body scope dV kV doc pm an cdv ct), osl⟩) (hcd : PySem.W.codeIn K cdv qual = true) (S : FnScope N ps scope)
    (hbody : ∀ (A : Around) (outer : List Env) (s : Shared) (H F : Hp) (l : Loc), Room k (A.deeper (envOfC qual scope s.heap.objs.size f cdv)) → A.guards = some [] →
      DSs (cxOf CXN P w K mg base N qual scope f cdv A outer s H XN).nox (cIn K F H l) body mb) :
    FnD P w K mg base (k + 1) f (PySem.W.fnOf name qual params body scope dV kV doc pm an cdv ct) ps (bodyRun N.length mb) := by
  refine ⟨fun A outer s H F l g args us vs evs Q hr hgd e0 hb r hl hs hS ha hw => ?_⟩
  have KX : K.In s.heap := e0.mod.kin.keeps fun b o e => (e0.bs b o e).1
  have lim : s.heap.NoLimit := e0.mod.nolimit.keeps fun b o e => (e0.bs b o e).1
  have hpl : ps.length ≤ N.length := by
    have := congrArg List.length S.pre
    rw [List.length_take] at this
    omega
  have hkind : ∀ y ∈ ps.zip us, scope.names.lookup y.1 = some .local ∨ (scope.names.lookup y.1 = some .cell ∧ ((cellsFrom (s.heap.objs.size + 1) scope.names []).lookup y.1).isSome = true) := by
    rintro ⟨n, v⟩ hy
    exact (S.par n (List.of_mem_zip hy).1).elim .inl fun q => .inr ⟨q, PySem.W.cellsFrom_some _ _ _ (.inl q)⟩
  refine codeAny_call_function hr.depth (KX _ _ lk) rfl S.co S.gen rfl (PySem.W.codeRec_of KX hcd) (hb _ _ _ _ ?_)
  refine wpAny_newFunctionEnv_cells S.kind hkind fun env he s1 x => ?_
  subst he
  refine ⟨lim.keeps x.toInCall.keep, codeAny_func ?_⟩
  obtain ⟨t, ht, sim⟩ := (hbody A outer s H F l (hr.deeper _) hgd).run rfl
  have I := inv_start (CX := CXN) (P := P) (w := w) (base := base) (N := N) (qual := qual) (f := f) (cd := cdv) (E := XN) S hr.hd e0 hl r x
  have R0 := rel_start (N := N) hs hS ha (by rw [hl]; exact hpl)
  have go : t { nx := fun _ H' => Q .non H', rt := Q } (L2.start N vs) H := by
    refine sim _ F H l _ g _ R0 ?_
    unfold bodyRun at hw
    have fin : ∀ {σ' : L2.St} {F' H' : Hp} {l' : Loc} {env' : Env'} {g' : G} {ev : EV} {v : V}, Rel (cIn K F H l) σ' F' H' l' env' g' → RepEV (cIn K F H l) σ' F' H' l' env' v ev → (∀ i, ev ≠ .bo i) → (∀ ns, ev ≠ .scr ns) → Back K F H l v F' H' l' ev g' := fun {σ' F' H' l' env' g' ev v} R r nb ns => by
      refine ⟨R.f0, R.sub, R.old, R.oldd, R.fo, R.lo, R.l0, R.src, ?_⟩
      cases ev with
      | d y => exact r
      | fr y =>
        obtain ⟨a, h1, h2, h3, h4, h5, h6⟩ := r
        exact ⟨a, h1, h2, h3, h4, h5⟩
      | src z => exact r
      | bo i => exact absurd rfl (nb i)
      | scr m => exact absurd rfl (ns m)
    cases q : mb (startE N.length evs) g with
    | bad => rw [q] at hw; exact hw.elim
    | exc c y e' g' => rw [q] at hw; exact hw.elim
    | ok fl e' g' =>
      rw [q] at hw
      cases fl with
      | nx => exact fun σ' F' H' l' R _ => hw V.non F' H' l' (fin R RepEV.ofn nofun nofun)
      | bk => exact hw.elim
      | ct => exact hw.elim
      | rt ev =>
        cases ev with
        | bo i => exact hw.elim
        | scr m => exact hw.elim
        | _ => exact fun σ' F' H' l' R _ v r => hw v F' H' l' (fin R r nofun nofun)
  refine wpAny_mono (ht.nox.run [] s1 (L2.start N vs) H _ I go) (fun fl s' hq => ?_) fun e s' hq => hq
  cases fl with
  | ret u =>
    obtain ⟨v, σ', H', J, rv, q⟩ := hq
    exact ⟨v, H', J.os, J.bare, J.base, J.hok, rv, q⟩
  | next =>
    obtain ⟨σ', H', J, q⟩ := hq
    exact ⟨V.non, H', J.os, J.bare, J.base, J.hok, rfl, q⟩
  | brk =>
    obtain ⟨_, _, _, q⟩ := hq
    exact False.elim q
  | cont =>
    obtain ⟨_, _, _, q⟩ := hq
    exact False.elim q
end DL
namespace DL
open PySem L2
/-! ### the law's own call -/
/-- a dict stands where the modules' table is -/
def SysAt (h : Heap) : Prop := ∃ o es ep, h.get? sysModules = some o ∧ o.data = .dict es ep
theorem SysAt.of {h : Heap} (n : h.NoSeer) : SysAt h := let ⟨_, ⟨o, es, ep, e, d, _⟩, _⟩ := n.mods; ⟨o, es, ep, e, d⟩
section
open PySem.Spec PyProof.Rows
theorem law_callD {P : Program} {w : World} {K : PySem.W.Frag} {mg mb : Str → Option Value} {k : Nat} {fa a : Addr} {fd : FuncData} {x : Str} {fm : FM} {s₁ : Shared} {vs : List Value} {ns : List Int}
    (KX : K.In s₁.heap) (hns : s₁.heap.Ns mainGlobals mg) (hb : s₁.heap.Ns builtinsNs mb) (hbb : ∀ x : Str, x ≠ "__name__" → mb x = bootBuiltins x) (hlim : s₁.heap.NoLimit) (hsys : SysAt s₁.heap) (hg : s₁.gens = #[])
    (ha : s₁.heap.get? a = some { cls := .type "list", data := .seq vs.toArray }) (hi : IntsAre vs ns) (hl : ns.length ≤ sizeLine) (hr : Room k callerA)
    (Fd : ∀ base : Heap, K.In base → base.Ns mainGlobals mg → SysAt base → FnD P w K mg base k fa fd [x] fm) (hbind : ∀ (s : Shared) (u : Value), BindsTo s fd ⟨[u], []⟩ [(x, u)])
    (hw : WpF (fm [.scr ns] none) fun ev _ => ev = .d (.bool true)) :
    codeAny (model P w) callerA (.call (.ref fa) ⟨[.ref a], []⟩) (fun r s' => r = .ok (.ret (.bool true)) ∧ OldK s₁.heap s'.heap ∧ s'.os = s₁.os ∧ AllBare s'.gens) s₁ := by
  have rv := vals_ints hi
  have lenV := hi.length
  have core : ∀ H : Hp, Only H → SqL K H a (ns.map V.int) → HOk P w H s₁.heap → (∀ b, H b ≠ none → b = a) → (H a ≠ none → K.lookup a = none) →
      codeAny (model P w) callerA (.call (.ref fa) ⟨[.ref a], []⟩) (fun r s' => r = .ok (.ret (.bool true)) ∧ OldK s₁.heap s'.heap ∧ s'.os = s₁.os ∧ AllBare s'.gens) s₁ := by
    intro H hO hS hok hA hK
    have stay : ∀ {b : Addr} {o : Obj}, s₁.heap.get? b = some o → H b = none → (hidT s₁.heap H).get? b = some o := fun e n => hidT_get e n
    have noD : ∀ {b : Addr} {o : Obj} {es : Array DictEntry} {ep : Nat}, s₁.heap.get? b = some o → o.data = .dict es ep → H b = none := fun {b o es ep} e d => by
      refine Classical.byContradiction fun z => ?_
      have e' := hA b z
      subst e'
      rw [ha] at e
      cases e
      exact nomatch (show Data.seq vs.toArray _ = Data.dict es ep from d)
    have nsD : ∀ {b : Addr} {m : Str → Option Value}, s₁.heap.Ns b m → (hidT s₁.heap H).Ns b m := fun {b m} q => by
      obtain ⟨o, es, ep, e, d, r⟩ := q
      exact ⟨o, es, ep, stay e (noD e d), d, r⟩
    have inK : K.In (hidT s₁.heap H) := fun b o e => stay (KX b o e) (Classical.byContradiction fun z => by
      have e' := hA b z
      subst e'
      rw [hK z] at e
      cases e)
    have hM : Mod K mg (hidT s₁.heap H) := ⟨inK, nsD hns, ⟨mb, nsD hb, hbb⟩, let ⟨mc, h1, h2⟩ := hlim; ⟨mc, nsD h1, h2⟩⟩
    have hSy : SysAt (hidT s₁.heap H) := by
      obtain ⟨o, es, ep, e, d⟩ := hsys
      exact ⟨o, es, ep, stay e (noD e d), d⟩
    have e0 : Env0 P w K mg (hidT s₁.heap H) callerA [] s₁ H := ⟨rfl, hM, fun b o e => of_hidT e, Nat.le_of_eq (hidT_size _ _), trivial, fun b hb => absurd (show b ∈ ([] : List Addr) from hb) (by simp), hok, .of_eq hg⟩
    refine codeAny_mono ((Fd _ inK (nsD hns) hSy).run callerA [] s₁ H H none none ⟨[.ref a], []⟩ [.ref a] [.ref a] [.scr ns] (fun v _ => v = .bl true) hr rfl e0 (hbind s₁ (.ref a)) (.cons rfl .nil) rfl (.refl _) trivial (.cons ⟨a, rfl, hS⟩ .nil)
      (hw.mono fun ev g e v F' H' l' b => by subst e; exact rep_bool.mp b.res)) fun r s' h => ?_
    cases r with
    | error e => exact False.elim h
    | ok fl =>
      cases fl with
      | next => exact False.elim h
      | brk => exact False.elim h
      | cont => exact False.elim h
      | ret u =>
        obtain ⟨v, H', os, bare, un, hok', r', q⟩ := h
        have q' : v = .bl true := q
        subst q'
        obtain rfl : u = Value.bool true := r'
        refine ⟨rfl, OldK.of_keep fun b o e => ?_, os, bare⟩
        rcases hO b with z | ⟨ob, xs, z⟩
        · exact un.keep b o e z (fun z => nomatch (show b ∈ ([] : List Addr) from z)) (by simp)
        · obtain ⟨e1, _⟩ := hok b _ z
          obtain ⟨e2, _⟩ := hok' b _ (un.frzs b ob _ z)
          rw [e] at e1
          cases e1
          exact e2
  cases hk : K.lookup a with
  | some o =>
    have e := KX a o hk
    rw [ha] at e
    cases e
    exact core (fun _ => none) (fun _ => .inl rfl) (.inr ⟨_, vs.toArray, _, hk, rfl, rfl, rfl, by rw [List.size_toArray, lenV]; exact hl, by simpa using rv⟩) (fun b u z => nomatch (show (none : Option HO) = some u from z)) (fun b z => absurd rfl z) fun z => absurd rfl z
  | none =>
    let H1 : Hp := fun b => if b = a then some (.frz { cls := .type "list", data := .seq vs.toArray } (.lst (ns.map V.int))) else none
    have at_ : H1 a = some (.frz { cls := .type "list", data := .seq vs.toArray } (.lst (ns.map V.int))) := if_pos rfl
    have off : ∀ {b : Addr}, b ≠ a → H1 b = none := fun h => if_neg h
    refine core H1 (fun b => ?_) (.inl (.inr ⟨_, at_⟩)) (fun b u z => ?_) (fun b z => Classical.byContradiction fun h => z (off h)) fun _ => hk
    · by_cases hb : b = a
      · subst hb; exact .inr ⟨_, _, at_⟩
      · exact .inl (off hb)
    · by_cases hb : b = a
      · subst hb
        rw [at_] at z
        cases z
        exact ⟨ha, by rw [List.length_map]; exact hl, vs, _, rv, ha⟩
      · rw [off hb] at z
        cases z
/-- the head's last goal -/
theorem walk_ofD {l : PySem.W.OpenLaw} {n k : Nat} {q : Program} {loose : List Str} {XP : (Str → Option Value) → Heap → Prop} {YP : World → Heap → Prop} {d : DefRec} {K : Params → PySem.W.Frag} {fm : FM} {x : Str}
    (hn : l.most = some n) (hn2 : n ≤ sizeLine) (hdf : d.params.defaults = []) (hr : Room k callerA) (hi : importsNone q = true)
    (hY : ∀ (w : World) (h : Heap), YP w h → (K w.params).In h)
    (Fd : ∀ (w : World) (mg : Str → Option Value) (fa : Addr) (h : Heap), (K w.params).In h → h.Ns mainGlobals mg → mg d.name = some (.ref fa) →
      ∃ fd : FuncData, (∀ (s : Shared) (u : Value), BindsTo s fd ⟨[u], []⟩ [(x, u)]) ∧
        ∀ base : Heap, (K w.params).In base → base.Ns mainGlobals mg → SysAt base → FnD l.prog w (K w.params) mg base k fa fd [x] fm)
    (hw : ∀ ns : List Int, ns.length ≤ n → (∀ z ∈ ns, Builtin.Int.intBits z ≤ 1048576) → WpF (fm [.scr ns] none) fun ev _ => ev = .d (.bool true)) :
    PySem.W.WalkO q loose XP YP l.row.toRowW d [] (fun f vs => PySem.call f vs) := by
  refine Att.attach_callB hn hdf fun w s₀ s₁ mg mb fa o pm cd doc a vs ns G Y ho hd hcd hmg hobj hints hlen hbits hg => ?_
  have KX := hY w _ Y
  obtain ⟨fd, hb, hF⟩ := Fd w mg fa _ KX G.T.g hmg
  exact law_callD KX G.T.g G.T.b G.T.builtins G.T.nolimit (SysAt.of (G.T.seer hi)) hg hobj hints (Nat.le_trans hlen hn2) hr hF hb (hw ns hlen hbits)
end
/-! ### repr -/
section
variable {X : Cx} {pins : List (Addr × Obj)} {σ : L2.St} {H F : Hp} {s : Shared}
theorem noSys_seq (I : Inv X pins σ H s) (hy : SysAt X.base) {a : Addr} {o : Obj} {xs : Array Value} {n : Nat} (e : s.heap.get? a = some o) (d : o.data = .seq xs n) : a ≠ sysModules := by
  rintro rfl
  obtain ⟨o', es, ep, e', d'⟩ := hy
  rw [I.bk _ _ e'] at e
  cases e
  rw [d] at d'
  cases d'
theorem keys_as {h : Heap} : ∀ {vs : List Value} {ds : List PyData} {as : List Addr}, ReadsAll h vs ds as → (∀ d ∈ ds, (∃ i, d = .int i) ∨ ∃ x, d = .str x) → as = []
  | _, _, _, .nil, _ => rfl
  | _, _, _, .cons h t, k => by
    have t' := keys_as t fun d hd => k d (List.mem_cons_of_mem _ hd)
    rcases k _ List.mem_cons_self with ⟨i, rfl⟩ | ⟨x, rfl⟩
    · cases h; simp [t']
    · cases h; simp [t']
theorem key_kinds {K : PySem.W.Frag} {F : Hp} : ∀ {ps : List (PyData × PyData)} {kv : List (Key × V)}, RepD K F kv ps → ∀ d ∈ ps.map (·.1), (∃ i, d = .int i) ∨ ∃ x, d = .str x
  | [], _, _, d, hd => by cases hd
  | p :: ps, kv, h, d, hd => by
    simp only [RepD] at h
    obtain ⟨k, v, w, rfl, q1, q2, t⟩ := h
    rw [List.map_cons] at hd
    rcases List.mem_cons.mp hd with e | e
    · subst e
      obtain ⟨p1, p2⟩ := p
      cases k with
      | inl i => cases p1 <;> simp_all [kV, rep_list, rep_tup, rep_dict]
      | inr x => cases p1 <;> simp_all [kV, rep_list, rep_tup, rep_dict]
    · exact key_kinds t d e
mutual
theorem Rep.readsN (I : Inv X pins σ H s) (hs : Same F H) (hy : SysAt X.base) : ∀ (d : PyData) (v : V) (u : Value), Rep X.K F v d → RelV v u → ∃ as, Reads s.heap u d as ∧ sysModules ∉ as
  | .none, _, _, h, r => by
    cases rep_none.mp h
    cases r
    exact ⟨_, Reads.none, by simp⟩
  | .bool b, _, _, h, r => by
    cases rep_bool.mp h
    cases r
    exact ⟨_, Reads.bool b, by simp⟩
  | .int i, _, _, h, r => by
    cases rep_int.mp h
    obtain ⟨t, rfl⟩ := r
    exact ⟨_, Reads.int i t, by simp⟩
  | .str x, _, _, h, r => by
    cases rep_str.mp h
    obtain ⟨t, rfl⟩ := r
    exact ⟨_, Reads.str x t, by simp⟩
  | .list ds, _, _, h, r => by
    obtain ⟨a, vs, rfl, q, t⟩ := rep_list.mp h
    cases r
    obtain ⟨its, rv, ⟨o, n, ho, hc, _, hd⟩, _⟩ := I.list (SqL.of (hs _ _ q))
    obtain ⟨as, hr, hn⟩ := RepL.readsN I hs hy ds vs its t rv
    refine ⟨_, Reads.list ho hc hd hr, fun z => ?_⟩
    rcases List.mem_cons.mp z with z | z
    · exact noSys_seq I hy ho hd z.symm
    · exact hn z
  | .tuple ds, _, _, h, r => by
    obtain ⟨a, vs, rfl, q, t⟩ := rep_tup.mp h
    cases r
    obtain ⟨its, rv, ⟨o, ho, hc, n, hd⟩, _⟩ := I.tuple (SqT.up hs q)
    obtain ⟨as, hr, hn⟩ := RepL.readsN I hs hy ds vs its t rv
    exact ⟨_, Reads.tuple ho hc hd hr, hn⟩
  | .dict kvs, _, _, h, r => by
    obtain ⟨a, kv, rfl, q, t⟩ := rep_dict.mp h
    cases r
    obtain ⟨_, hne, vs, hk, o, es, ep, ho, hx, hd, _, hp, _⟩ := I.hok a _ (hs _ _ q)
    obtain ⟨as, h1⟩ := readsAll_keys (h := s.heap) hp hk t
    obtain ⟨bs, h2, hn⟩ := RepD.readsN I hs hy kvs kv vs t hk
    have e1 := keys_as h1 (key_kinds t)
    subst e1
    refine ⟨_, Reads.dict ho hx.1 hd h1 (bs := bs) ?_, fun z => ?_⟩
    · rw [pairs_vals hp]
      exact h2
    · simp only [List.append_nil, List.nil_append, List.cons_append] at z
      rcases List.mem_cons.mp z with z | z
      · rw [← z] at hne
        exact absurd hne (by decide)
      · exact hn z
theorem RepL.readsN (I : Inv X pins σ H s) (hs : Same F H) (hy : SysAt X.base) : ∀ (ds : List PyData) (vs : List V) (us : List Value), RepL X.K F vs ds → Vals vs us → ∃ as, ReadsAll s.heap us ds as ∧ sysModules ∉ as
  | [], _, _, h, r => by
    cases repL_nil.mp h
    cases r
    exact ⟨_, .nil, by simp⟩
  | d :: ds, _, _, h, r => by
    obtain ⟨v, w, rfl, q, t⟩ := repL_cons.mp h
    cases r with
    | cons r1 r2 =>
      obtain ⟨as, h1, n1⟩ := Rep.readsN I hs hy d _ _ q r1
      obtain ⟨bs, h2, n2⟩ := RepL.readsN I hs hy ds _ _ t r2
      exact ⟨_, .cons h1 h2, by simp [n1, n2]⟩
theorem RepD.readsN (I : Inv X pins σ H s) (hs : Same F H) (hy : SysAt X.base) : ∀ (ps : List (PyData × PyData)) (kv : List (Key × V)) (us : List (Key × Value)), RepD X.K F kv ps → KV kv us → ∃ as, ReadsAll s.heap (us.map (·.2)) (ps.map (·.2)) as ∧ sysModules ∉ as
  | [], kv, _, h, r => by
    simp only [RepD] at h
    subst h
    cases r
    exact ⟨_, .nil, by simp⟩
  | p :: ps, kv, _, h, r => by
    simp only [RepD] at h
    obtain ⟨k, v, w, rfl, q1, q2, t⟩ := h
    cases r with
    | cons r1 r2 =>
      obtain ⟨as, h1, n1⟩ := Rep.readsN I hs hy p.2 _ _ q2 r1.2
      obtain ⟨bs, h2, n2⟩ := RepD.readsN I hs hy ps _ _ t r2
      rw [List.map_cons, List.map_cons]
      exact ⟨_, .cons h1 h2, by simp [n1, n2]⟩
end
end
def reprOk (d : PyData) : Bool := d.showable && decide (d.depth ≤ 60) && decide (d.shown.length ≤ sizeLine)
def pyRepr1 (x : PyData) : Option RV := if reprOk x then some (.d (.str x.shown)) else none
/-- repr(x) of frozen data -/
def mRepr (m : M PyData) : M EV := m.bind fun x => fun env g => M.opt ((pyRepr1 x).map RV.ev) env g
section
open PySem.Spec PyProof.Rows
variable {X : Cx} {C : DCx} {e : Expr} {p pos : Pos}
def rRepr (K : PySem.W.Frag) : List V → Hp → VK → Prop := fun vs H Q => ∃ F v d, vs = [v] ∧ Same F H ∧ Rep K F v d ∧ reprOk d = true ∧ Q (.str d.shown) H
theorem call_reprD (hgd : X.A.guards = some []) (hy : SysAt X.base) (hu : X.A.units + 65 < cLine) : CallR X (.builtin "repr") (rRepr X.K) := by
  intro pins s σ H vs us Q I r h
  obtain ⟨F, v, d, rfl, hs, rp, ok, q⟩ := h
  obtain ⟨u, rfl, r1⟩ := vals1 r
  obtain ⟨as, hr, hn⟩ := Rep.readsN I hs hy d v u rp r1
  unfold reprOk at ok
  rw [Bool.and_eq_true, Bool.and_eq_true, decide_eq_true_eq, decide_eq_true_eq] at ok
  obtain ⟨⟨o1, o2⟩, o3⟩ := ok
  have fin : ∀ (h' : Heap) (t : Tok) (tk : Nat), (∀ b o, s.heap.get? b = some o → h'.get? b = some o) → EP X pins σ Q (.str d.shown t) { s with heap := h', toks := tk } := fun h' t tk hk => ⟨.str d.shown, H, I.kept (t' := tk) hk, ⟨t, rfl⟩, q⟩
  cases hr with
  | none => exact PySem.P.repr_of_none (fin s.heap _ _ fun _ _ e => e)
  | bool b => exact PySem.P.repr_of_bool (by have := fin s.heap s.toks (s.toks + 1) fun _ _ e => e; simpa only [PyData.shown] using this)
  | int i t => exact PySem.P.repr_of_int (by simpa [PyData.showable] using o1) (by have := fin s.heap s.toks (s.toks + 1) fun _ _ e => e; simpa only [PyData.shown] using this)
  | str x t => exact PySem.P.repr_of_str (by have := fin s.heap s.toks (s.toks + 1) fun _ _ e => e; simpa only [PyData.shown] using this) (by simpa only [PyData.shown] using o3)
  | list h1 h2 h3 h4 => exact repr_of_reads' (.list h1 h2 h3 h4) o1 (fun _ => hn) hgd (by omega) (fun _ _ e => e) (fun h' u tk hk => fin h' u tk hk) o3
  | tuple h1 h2 h3 h4 => exact repr_of_reads' (.tuple h1 h2 h3 h4) o1 (fun _ => hn) hgd (by omega) (fun _ _ e => e) (fun h' u tk hk => fin h' u tk hk) o3
  | dict h1 h2 h3 h4 h5 => exact repr_of_reads' (.dict h1 h2 h3 h4 h5) o1 (fun _ => hn) hgd (by omega) (fun _ _ e => e) (fun h' u tk hk => fin h' u tk hk) o3
theorem de_repr {m : M PyData} (hgd : X.A.guards = some []) (hy : SysAt X.base) (hu : X.A.units + 65 < cLine) (hg : Gl X "repr") (hm : X.mg "repr" = none) (ha : DD X C e m)
    (hs : starEach [e] X.env = (false, eval e X.env) :: starEach [] X.env := by rfl) (hpl : (backTo pos (starEach [] X.env)).any (·.1) = false := by rfl) : DE X C (.Call (.Name "repr" p) [e] [] pos) (mRepr m) := by
  refine ⟨fun hK => ?_⟩
  obtain ⟨t, h1, s1⟩ := ha.run hK
  refine ⟨_, pe_callB (call_reprD hgd hy hu) hg hm boot_repr (pa_cons h1 pa_nil hs) (by decide) (by decide) hs hpl, fun σ F H l env g Q R w => ?_⟩
  refine s1 σ F H l env g _ R (Wp.mono (Wp.bind.mp w) (fun d env1 g1 w v F1 H1 l1 R1 x1 r1 => ?_) fun _ _ _ _ w => w)
  cases hg : pyRepr1 d with
  | none => rw [hg] at w; exact w.elim
  | some ev =>
    rw [hg] at w
    unfold pyRepr1 at hg
    obtain ⟨h2, rfl⟩ := if_some hg
    exact ⟨F1, v, d, rfl, R1.sub, by rw [← hK]; exact r1, h2, (KE.res (r := .d (.str d.shown)) R1 (KE.up w x1)).val R1.sub (rep_str.mpr rfl)⟩
end
end DL
namespace DL
open PySem L2
/-! ### the source: a dict of its cells and three ints -/
def srcGetD (s : Src) (key : Str) : Option EV :=
  if key = "cells" then some (.src true) else if key = "left" then some (.d (.int s.left)) else if key = "mixed" then some (.d (.int s.mixed)) else if key = "turn" then some (.d (.int s.turn)) else none
def srcPutD (s : Src) (key : Str) (i : Int) : Option Src :=
  if key = "left" then some { s with left := i } else if key = "mixed" then some { s with mixed := i } else if key = "turn" then some { s with turn := i } else none
theorem ne_cl : ("cells" : Str) ≠ "left" := by decide
theorem ne_cm : ("cells" : Str) ≠ "mixed" := by decide
theorem ne_ct : ("cells" : Str) ≠ "turn" := by decide
theorem ne_lm : ("left" : Str) ≠ "mixed" := by decide
theorem ne_lt : ("left" : Str) ≠ "turn" := by decide
theorem ne_mt : ("mixed" : Str) ≠ "turn" := by decide
def srcKV (c : Addr) (s : Src) : List (Key × V) := [(.inr "cells", .ref c), (.inr "left", .int s.left), (.inr "mixed", .int s.mixed), (.inr "turn", .int s.turn)]
theorem srcKV_get {c : Addr} {s : Src} {key : Str} {ev : EV} (h : srcGetD s key = some ev) : ∃ v, valV (srcKV c s) (.inr key) = some v ∧ (match ev with
    | .src b => b = true ∧ v = V.ref c
    | .d (.int i) => v = V.int i
    | _ => False) := by
  unfold srcGetD at h
  split at h
  · rename_i e; subst e; cases h
    exact ⟨_, by simp [srcKV, valV], rfl, rfl⟩
  · split at h
    · rename_i e; subst e; cases h
      exact ⟨_, by simp [srcKV, valV, ne_cl], rfl⟩
    · split at h
      · rename_i e; subst e; cases h
        exact ⟨_, by simp [srcKV, valV, ne_cm, ne_lm], rfl⟩
      · split at h
        · rename_i e; subst e; cases h
          exact ⟨_, by simp [srcKV, valV, ne_ct, ne_lt, ne_mt], rfl⟩
        · cases h
theorem srcKV_put {c : Addr} {s s' : Src} {key : Str} {i : Int} (h : srcPutD s key i = some s') : putK (srcKV c s) (.inr key) (.int i) = srcKV c s' ∧ s'.cells = s.cells := by
  unfold srcPutD at h
  split at h
  · rename_i e; subst e; cases h
    simp [srcKV, putK, ne_cl, ne_cl.symm, ne_lm, ne_lm.symm, ne_lt, ne_lt.symm]
  · split at h
    · rename_i e; subst e; cases h
      simp [srcKV, putK, ne_cm, ne_cm.symm, ne_lm, ne_lm.symm, ne_mt, ne_mt.symm]
    · split at h
      · rename_i e; subst e; cases h
        simp [srcKV, putK, ne_ct, ne_ct.symm, ne_lt, ne_lt.symm, ne_mt, ne_mt.symm]
      · cases h
section
variable {C : DCx} {σ : L2.St} {F H : Hp} {l : Loc} {env : Env'} {g : G}
/-- the source, written -/
theorem Rel.srcW {d c : Addr} {s s' : Src} {H' : Hp} (R : Rel C σ F H l env (some s)) (el : l = some (d, c)) (hd : H' d = some (srcDict c s')) (hc : H' c = some (.lst (s'.cells.map .int))) (off : ∀ b, b ≠ d → b ≠ c → H' b = H b) :
    Rel C σ F H' l env (some s') ∧ Ext σ F H l env F H' l env := by
  subst el
  have hS := R.src
  obtain ⟨h1, h2, h3, h4, h5⟩ := hS
  have at_ : ∀ b, SrcAt (some (d, c)) b ↔ b = d ∨ b = c := fun b => ⟨fun ⟨p, e, q⟩ => by cases e; exact q, fun q => ⟨_, rfl, q⟩⟩
  have keep : ∀ b o, H b = some o → ¬ SrcAt (some (d, c)) b → H' b = some o := fun b o e n => by
    rw [off b (fun z => n ((at_ b).mpr (.inl z))) (fun z => n ((at_ b).mpr (.inr z)))]
    exact e
  have stay : ∀ b, H b ≠ none → H' b ≠ none := fun b e => by
    by_cases z1 : b = d
    · rw [z1, hd]; simp
    · by_cases z2 : b = c
      · rw [z2, hc]; simp
      · rw [off b z1 z2]; exact e
  refine ⟨⟨fun b o e => ?_, R.len, R.dat, fun i x e => ?_, R.inj, R.iscr, R.isrc, ⟨h1, hd, hc, h4, h5⟩, fun a o e n => ?_, fun a e => stay a (R.oldd a e), R.f0, R.fo, R.lo, R.l0⟩,
    ⟨.refl _, stay, fun a o e _ n => keep a o e n, fun a e => .inl e, fun _ e => e, fun _ e => e, fun _ e => .inl e⟩⟩
  · have z1 : b ≠ d := ne_of_none e h4
    have z2 : b ≠ c := ne_of_none e h5
    rw [off b z1 z2]
    exact R.sub _ _ e
  · obtain ⟨a, k1, k2, k3, k4, k5⟩ := R.own i x e
    exact ⟨a, k1, k2.up (.refl _) fun o q => keep a o q k5, k3, k4, k5⟩
  · refine keep a o (R.old a o e n) fun z => ?_
    rcases R.lo a z with q | q
    · exact n q
    · rw [e] at q; cases q
end
def mSrcGet (key : Str) (mo : M EV) : M EV := mo.bind fun ev => fun env g => match ev, g with
  | .src false, some s => M.opt (srcGetD s key) env g
  | _, _ => .bad
def srcPutV (key : Str) (v ev : EV) (g : G) : Option Src := match v, ev, g with
  | .d (.int i), .src false, some s => srcPutD s key i
  | _, _, _ => none
theorem srcPutV_inv {key : Str} {v ev : EV} {g : G} {s' : Src} (h : srcPutV key v ev g = some s') : ∃ i s, v = .d (.int i) ∧ ev = .src false ∧ g = some s ∧ srcPutD s key i = some s' := by
  unfold srcPutV at h
  split at h
  · exact ⟨_, _, rfl, rfl, rfl, h⟩
  · cases h
def mSrcPut (key : Str) (mv mo : M EV) : M Fl := mv.bind fun v => mo.bind fun ev => fun env g => match srcPutV key v ev g with
  | some s' => .ok .nx env (some s')
  | none => .bad
def mSrcLen (mo : M EV) : M EV := mo.bind fun ev => fun env g => match ev, g with
  | .src true, some s => .ok (.d (.int (s.cells.length : Nat))) env g
  | _, _ => .bad
def mSrcPop (mo : M EV) : M EV := mo.bind fun ev => fun env g => match ev, g with
  | .src true, some s => match s.cells[s.cells.length - 1]? with
    | some i => .ok (.d (.int i)) env (some { s with cells := s.cells.dropLast })
    | none => .bad
  | _, _ => .bad
def mScrItems (mo : M EV) : M (List PyData) := mo.bind fun ev => match ev with
  | .scr ns => M.pure (ns.map .int)
  | _ => M.bad
theorem srcRep_cases {F H : Hp} {l : Loc} {g : G} {d c : Addr} (h : SrcRep F H l g) (e : l = some (d, c)) : ∃ s, g = some s ∧ d ≠ c ∧ H d = some (srcDict c s) ∧ H c = some (.lst (s.cells.map .int)) ∧ F d = none ∧ F c = none := by
  subst e
  cases g with
  | none => exact h.elim
  | some s => exact ⟨s, rfl, h⟩
section
variable {X : Cx} {C : DCx} {o e : Expr} {pos pos' apos cpos p p0 : Pos} {key : Str} {j : Nat} {mo mv : M EV}
theorem de_srcGet (hu : X.A.units + 1 < cLine) (ho : DE X C o mo) (hs : NoSl (.Constant (.str key) j p) := by intro _ _; rfl) : DE X C (.Subscript o (.Constant (.str key) j p) pos) (mSrcGet key mo) := by
  refine ⟨fun hK => ?_⟩
  obtain ⟨t, h1, s1⟩ := ho.run hK
  refine ⟨_, pe_dget hu h1 pe_str hs, fun σ F H l env g Q R w => ?_⟩
  refine s1 σ F H l env g _ R (Wp.mono (Wp.bind.mp w) (fun ev env1 g1 w v F1 H1 l1 R1 x1 r1 f1 => ?_) fun _ _ _ _ w => w)
  split at w
  · rename_i s
    obtain ⟨ev', q, w⟩ := Wp.opt w
    obtain ⟨d, c, e1, rfl⟩ := r1
    obtain ⟨s', e2, k1, k2, k3, k4, k5⟩ := srcRep_cases R1.src e1
    cases e2
    obtain ⟨v, q1, q2⟩ := srcKV_get (c := c) q
    refine ⟨d, v, rfl, ?_, ?_⟩
    · have this : DGet H1 d (kV (.inr key)) (valV (srcKV c s) (.inr key)) := DGet.k k2
      rw [q1] at this
      exact this
    · cases ev' with
      | src b =>
        obtain ⟨rfl, rfl⟩ := q2
        exact w _ F1 H1 l1 R1 x1 ⟨d, c, e1, rfl⟩ trivial
      | d y =>
        cases y with
        | int i => rw [q2]; exact w _ F1 H1 l1 R1 x1 (RepEV.ofd (rep_int.mpr rfl)) trivial
        | _ => exact q2.elim
      | _ => exact q2.elim
  · exact w.elim
theorem ds_srcPut (hu : X.A.units + 1 < cLine) (hv : DE X C e mv) (ho : DE X C o mo) (hs : swapsWith e (some (.Subscript o (.Constant (.str key) j p) pos')) pos.line X.env = pure false := by rfl) :
    DS X C (.Assign [.Subscript o (.Constant (.str key) j p) pos'] e pos) (mSrcPut key mv mo) := by
  refine ⟨fun hK => ?_⟩
  obtain ⟨tv, h1, s1⟩ := hv.run hK
  obtain ⟨t, h2, s2⟩ := ho.run hK
  refine ⟨_, ps_dput hu h2 pe_str h1 hs, fun σ F H l env g D R w => ?_⟩
  refine s1 σ F H l env g _ R (Wp.mono (Wp.bind.mp w).xs (fun v env1 g1 w u F1 H1 l1 R1 x1 r1 f1 => ?_) fun _ _ _ _ w => w)
  refine s2 σ F1 H1 l1 env1 g1 _ R1 (Wp.mono (Wp.bind.mp w).xs (fun ev env2 g2 wf u2 F2 H2 l2 R2 x2 r2 f2 => ?_) fun _ _ _ _ w => w)
  cases q0 : srcPutV key v ev g2 with
  | none => rw [q0] at wf; exact wf.elim
  | some s' =>
    rw [q0] at wf
    obtain ⟨i, s, rfl, rfl, rfl, q⟩ := srcPutV_inv q0
    obtain ⟨d, c, e1, rfl⟩ := r2
    obtain ⟨s0, e2, k1, k2, k3, k4, k5⟩ := srcRep_cases R2.src e1
    cases e2
    obtain ⟨q1, q2⟩ := srcKV_put (c := c) q
    have hi : u = .int i := rep_int.mp (show Rep C.K F1 u (.int i) from r1)
    subst hi
    have dp : DPut H2 d (kV (.inr key)) (.int i) (upd H2 d (.dK (putK (srcKV c s) (.inr key) (.int i)))) := DPut.k k2 (show 4 < sizeLine by decide)
    rw [q1] at dp
    refine ⟨d, _, rfl, dp, ?_⟩
    obtain ⟨R3, x3⟩ := R2.srcW (s' := s') (H' := upd H2 d (.dK (srcKV c s'))) e1 upd_same (by rw [upd_ne (Ne.symm k1), q2]; exact k3) fun b n1 _ => upd_ne n1
    exact wf σ F2 _ l2 R3 (x1.fs.trans x2.fs)
theorem de_srcLen {x1 : Pos} (hg : Gl X "len") (hm : X.mg "len" = none) (ho : DE X C o mo) (hs : starEach [o] X.env = (false, eval o X.env) :: starEach [] X.env := by rfl) (hpl : (backTo pos (starEach [] X.env)).any (·.1) = false := by rfl) :
    DE X C (.Call (.Name "len" x1) [o] [] pos) (mSrcLen mo) := by
  refine ⟨fun hK => ?_⟩
  obtain ⟨t, h1, s1⟩ := ho.run hK
  refine ⟨_, pe_callB call_len hg hm (by decide +kernel) (pa_cons h1 pa_nil hs) (by decide) (by decide) hs hpl, fun σ F H l env g Q R w => ?_⟩
  refine s1 σ F H l env g _ R (Wp.mono (Wp.bind.mp w) (fun ev env1 g1 w v F1 H1 l1 R1 x1 r1 f1 => ?_) fun _ _ _ _ w => w)
  split at w
  · rename_i s
    obtain ⟨d, c, e1, rfl⟩ := r1
    obtain ⟨s0, e2, k1, k2, k3, k4, k5⟩ := srcRep_cases R1.src e1
    cases e2
    exact ⟨_, s.cells.length, rfl, .inl ⟨_, SqL.of k3, by rw [List.length_map]⟩, w _ F1 H1 l1 R1 x1 (RepEV.ofd (rep_int.mpr rfl)) trivial⟩
  · exact w.elim
theorem de_srcPop (ho : DE X C o mo) (hbase : attributeBase o "pop" X.env (eval o X.env) = eval o X.env := by rfl) (hline : (apos.endLine == cpos.line) = true := by rfl) :
    DE X C (.Call (.Attribute o "pop" apos) [] [] cpos) (mSrcPop mo) := by
  refine ⟨fun hK => ?_⟩
  obtain ⟨t, h1, s1⟩ := ho.run hK
  refine ⟨_, pe_bm0 PySem.F.plainAttrs_list PySem.F.slot_list_pop PySem.F.type_list_pop (id := "list.pop") (show MtR X "list.pop" rPop from mt_pop) h1 hbase hline, fun σ F H l env g Q R w => ?_⟩
  refine s1 σ F H l env g _ R (Wp.mono (Wp.bind.mp w) (fun ev env1 g1 w v F1 H1 l1 R1 x1 r1 f1 => ?_) fun _ _ _ _ w => w)
  split at w
  · rename_i s
    split at w
    · rename_i i hi
      obtain ⟨d, c, e1, rfl⟩ := r1
      obtain ⟨s0, e2, k1, k2, k3, k4, k5⟩ := srcRep_cases R1.src e1
      cases e2
      obtain ⟨R3, x3⟩ := R1.srcW (s' := { s with cells := s.cells.dropLast }) (H' := upd H1 c (.lst (s.cells.map V.int).dropLast)) e1 (by rw [upd_ne k1]; exact k2) (by rw [upd_same, ← List.map_dropLast]) fun b _ n2 => upd_ne n2
      refine ⟨.inl ⟨rfl, _, SqL.of k3⟩, c, s.cells.map V.int, .int i, rfl, rfl, k3, by rw [List.length_map, List.getElem?_map, hi]; rfl, ?_⟩
      exact w _ F1 _ l1 R3 (x1.trans (C := C) x3) (RepEV.ofd (rep_int.mpr rfl)) trivial
    · exact w.elim
  · exact w.elim
theorem walks_sql {K : PySem.W.Frag} {F : Hp} {a : Addr} {vs : List V} {ds : List PyData} (h : SqL K F a vs) (r : RepL K F vs ds) : Walks K (Itl K a) ds F where
  go := fun F' H' i s1 s2 hi => by
    rw [← r.length] at hi
    exact ⟨vs, vs[i], SqL.up s2 (SqL.up s1 h), by simp [hi]⟩
  yl := fun F' H' i v H2 s1 s2 hi y => by
    obtain ⟨rfl, y⟩ := y
    obtain ⟨d, hd, rd⟩ := r.get (y vs (SqL.up s2 (SqL.up s1 h)))
    exact ⟨F', d, hd, New.same s2 (Rep.up s1 _ _ rd)⟩
  st := fun F' H' s1 s2 => ⟨vs, SqL.up s2 (SqL.up s1 h), Nat.le_of_eq r.length⟩
theorem di_scr {tg : Expr} (ho : DE X C o mo) : DI X C tg o (mScrItems mo) := by
  refine ⟨fun hK => ?_⟩
  obtain ⟨t, h1, s1⟩ := ho.run hK
  refine ⟨_, pi_seq h1, fun σ F H l env g R Rl w => ?_⟩
  refine s1 σ F H l env g _ Rl (Wp.mono (Wp.bind.mp w) (fun ev env1 g1 w v F1 H1 l1 R1 x1 r1 f1 => ?_) fun _ _ _ _ w => w)
  split at w
  · rename_i ns
    obtain ⟨a, rfl, q⟩ := r1
    exact .inl ⟨a, rfl, ⟨_, by rw [← hK]; exact SqL.up R1.sub q⟩, by rw [← hK]; exact w _ F1 H1 l1 R1 x1 (walks_sql q (repL_ints ns))⟩
  · exact w.elim
/-- the new source -/
def srcNewD (a b c d : EV) (g : G) : Option Src := match a, b, c, d, g with
  | .fr (.list ds), .d (.int l), .d (.int m), .d (.int t), none => (intsOf ds).map fun ns => ⟨ns, l, m, t⟩
  | _, _, _, _, _ => none
theorem srcNewD_inv {a b c d : EV} {g : G} {s : Src} (h : srcNewD a b c d g = some s) : a = .fr (.list (s.cells.map .int)) ∧ b = .d (.int s.left) ∧ c = .d (.int s.mixed) ∧ d = .d (.int s.turn) ∧ g = none := by
  unfold srcNewD at h
  split at h
  · obtain ⟨ns, q, rfl⟩ := Option.map_eq_some_iff.mp h
    rw [intsOf_eq q]
    exact ⟨rfl, rfl, rfl, rfl, rfl⟩
  · cases h
def mSrcNew (m1 m2 m3 m4 : M EV) : M EV := m1.bind fun a => m2.bind fun b => m3.bind fun c => m4.bind fun d => fun env g => match srcNewD a b c d g with
  | some s => .ok (.src false) env (some s)
  | none => .bad
theorem de_srcNew {e1 e2 e3 e4 : Expr} {m1 m2 m3 m4 : M EV} {j1 j2 j3 j4 : Nat} {p1 p2 p3 p4 : Pos} (h1 : DE X C e1 m1) (h2 : DE X C e2 m2) (h3 : DE X C e3 m3) (h4 : DE X C e4 m4) :
    DE X C (.Dict [some (.Constant (.str "cells") j1 p1), some (.Constant (.str "left") j2 p2), some (.Constant (.str "mixed") j3 p3), some (.Constant (.str "turn") j4 p4)] [e1, e2, e3, e4] pos) (mSrcNew m1 m2 m3 m4) := by
  refine ⟨fun hK => ?_⟩
  obtain ⟨t1, k1, s1⟩ := h1.run hK
  obtain ⟨t2, k2, s2⟩ := h2.run hK
  obtain ⟨t3, k3, s3⟩ := h3.run hK
  obtain ⟨t4, k4, s4⟩ := h4.run hK
  refine ⟨_, pe_disp (pps_cons pe_str k1 (pps_cons pe_str k2 (pps_cons pe_str k3 (pps_cons pe_str k4 pps_nil)))) rfl rfl (by simp) (by simp), fun σ F H l env g Q R w => ?_⟩
  intro P hP
  have nF : F P = none := none_sub R.sub hP
  have nw : New C.K F H F (upd H P (.dK [])) (V.ref P) (.fr (.dict [])) :=
    ⟨.refl _, Same.upd hP, R.sub.trans (Same.upd hP), fun _ e => .inl e, P, rfl, hP, nF, [], upd_same, by simp only [RepD]⟩
  obtain ⟨R0, x0, r0⟩ := R.new nw
  obtain ⟨P', eP, oP, fP, zP, sP, wP⟩ := r0
  cases eP
  refine s1 σ F _ l env g _ R0 (Wp.mono (Wp.bind.mp w) (fun a env1 g1 w v1 F1 H1 l1 R1 x1 r1 f1 => ?_) fun _ _ _ _ w => w)
  refine s2 σ F1 H1 l1 env1 g1 _ R1 (Wp.mono (Wp.bind.mp w) (fun b env2 g2 w v2 F2 H2 l2 R2 x2 r2 f2 => ?_) fun _ _ _ _ w => w)
  refine s3 σ F2 H2 l2 env2 g2 _ R2 (Wp.mono (Wp.bind.mp w) (fun c env3 g3 w v3 F3 H3 l3 R3 x3 r3 f3 => ?_) fun _ _ _ _ w => w)
  refine s4 σ F3 H3 l3 env3 g3 _ R3 (Wp.mono (Wp.bind.mp w) (fun d env4 g4 wf v4 F4 H4 l4 R4 x4 r4 f4 => ?_) fun _ _ _ _ w => w)
  have x24 := x2.trans (C := C) (x3.trans (C := C) x4)
  have x14 := x1.trans (C := C) x24
  have hP4 : H4 P = some (.dK []) := x14.hk P _ upd_same wP sP
  have nP4 : F4 P = none := Classical.byContradiction fun z => by
    rcases x14.gr P z with q | q | q
    · exact q fP
    · rw [upd_same] at q; cases q
    · exact wP q
  cases q0 : srcNewD a b c d g4 with
  | none => rw [q0] at wf; exact wf.elim
  | some sn =>
      rw [q0] at wf
      obtain ⟨rfl, rfl, rfl, rfl, rfl⟩ := srcNewD_inv q0
      obtain ⟨D, rfl, oD, fD, zD, sD, wD⟩ := r1.up x24
      obtain ⟨vs, hD, rl⟩ := oD
      have evs := repL_ints_of rl
      subst evs
      have e2 : v2 = .int sn.left := rep_int.mp (show Rep C.K F2 v2 (.int sn.left) from r2)
      have e3 : v3 = .int sn.mixed := rep_int.mp (show Rep C.K F3 v3 (.int sn.mixed) from r3)
      have e4 : v4 = .int sn.turn := rep_int.mp (show Rep C.K F4 v4 (.int sn.turn) from r4)
      subst e2 e3 e4
      have PD : P ≠ D := fun z => by
        rw [z, hD] at hP4
        cases hP4
      have el : l4 = none := by
        have := R4.src
        cases l4 with
        | none => rfl
        | some p => exact this.elim
      refine ⟨hP4, srcKV D sn, rfl, by simp [srcKV], ?_⟩
      have em : mergeK [] (srcKV D sn) = srcKV D sn := by
        simp [mergeK, srcKV, putK, ne_cl, ne_cm, ne_ct, ne_lm, ne_lt, ne_mt]
      rw [em]
      have C0P : C.H0 P = none := zP
      have up4 : ∀ b, b ≠ P → upd H4 P (.dK (srcKV D sn)) b = H4 b := fun b h => upd_ne h
      have at_ : ∀ b, SrcAt (some (P, D)) b ↔ b = P ∨ b = D := fun b => ⟨fun ⟨p, e, q⟩ => by cases e; exact q, fun q => ⟨_, rfl, q⟩⟩
      have owP : ¬ OwnAt σ env4 P := fun z => wP (x14.ow P z)
      have stay : ∀ b, H4 b ≠ none → upd H4 P (.dK (srcKV D sn)) b ≠ none := fun b e => by
        by_cases z : b = P
        · rw [z, upd_same]; simp
        · rw [up4 b z]; exact e
      have x04 : Ext σ F H l env F4 H4 l4 env4 := Ext.trans (C := C) x0 x14
      refine wf (V.ref P) F4 _ (some (P, D)) ⟨fun b o e => ?_, R4.len, R4.dat, fun i x e => ?_, R4.inj, R4.iscr, fun i z e => ?_, ⟨PD, upd_same, by rw [up4 D (Ne.symm PD)]; exact hD, nP4, fD⟩, fun b o e n => ?_, fun b e => stay b (R4.oldd b e), R4.f0, R4.fo, fun b z => ?_, fun p e => ?_⟩
        ⟨x04.fs, fun b e => stay b (x04.hd b e), fun b o e n1 n2 => ?_, x04.gr, x04.ow, fun p e => ?_, fun b z => ?_⟩ ⟨P, D, rfl, rfl⟩ trivial
      · rw [up4 b (ne_of_none e nP4)]; exact R4.sub _ _ e
      · obtain ⟨q, q1, q2, q3, q4, q5⟩ := R4.own i x e
        have oq : OwnAt σ env4 q := ⟨i, x, e, q1⟩
        have qP : q ≠ P := fun z => owP (z ▸ oq)
        have qD : q ≠ D := fun z => wD (z ▸ oq)
        exact ⟨q, q1, q2.up (.refl _) fun o h => by rw [up4 q qP]; exact h, q3, q4, fun z => ((at_ q).mp z).elim qP qD⟩
      · obtain ⟨d', c', q1, _⟩ := R4.isrc i z e
        rw [el] at q1; cases q1
      · have bP : b ≠ P := fun z => by rw [z, C0P] at e; cases e
        rw [up4 b bP]; exact R4.old b o e n
      · rcases (at_ b).mp z with q | q
        · rw [q]; exact .inr C0P
        · rw [q]; exact .inr zD
      · have := R4.l0 p e
        rw [el] at this; cases this
      · have bP : b ≠ P := fun z => by rw [z, hP] at e; cases e
        rw [up4 b bP]; exact x04.hk b o e n1 n2
      · have := x04.ls p e
        rw [el] at this; cases this
      · rcases (at_ b).mp z with q | q
        · rw [q]; exact .inr hP
        · rw [q]
          have := f1 D rfl
          by_cases z : D = P
          · exact absurd z.symm PD
          · rw [upd_ne z] at this; exact .inr this
/-- {} -/
theorem de_dict0 : DE X C (.Dict [] [] pos) (M.pure (.fr (.dict []))) := ⟨fun _ => ⟨_, pe_dnewK, fun σ F H l env g Q R w => fun q hq => (KE.res (r := .fr (.dict [])) R w).dict R.sub hq (by simp only [RepD])⟩⟩
end
end DL
namespace DL
open PySem L2
/-! ### short forms, for printed derivations -/
section
variable {X : Cx} {C : DCx}
theorem vV (i : Nat) {x : Str} {pos : Pos} (hN : X.N[i]? = some x := by rfl) (hv : Vis X.env.scope x := by first | exact Or.inl rfl | exact Or.inr (Or.inl rfl) | exact Or.inr (Or.inr rfl)) (hd : (x == ("__debug__" : Str)) = false := by decide)
    (hcd : (x == ("__classdict__" : Str)) = false := by decide) : DE X C (.Name x pos) (mVar i) := de_var (pe_var hN hv hd hcd)
theorem vB (i : Nat) {x : Str} {pos : Pos} (hN : X.N[i]? = some x := by rfl) (hv : Vis X.env.scope x := by first | exact Or.inl rfl | exact Or.inr (Or.inl rfl) | exact Or.inr (Or.inr rfl)) (hd : (x == ("__debug__" : Str)) = false := by decide)
    (hcd : (x == ("__classdict__" : Str)) = false := by decide) : DE X C (.Name x pos) (mVarB i) := de_varB (pe_var hN hv hd hcd)
theorem gN (i : Nat) {x : Str} {pos : Pos} (hN : X.N.Nodup) (hi : X.N[i]? = some x := by rfl) (hx : L2.Loc X.env.scope x := by first | exact .inl rfl | exact .inr rfl) (hf : X.fn x = true ∨ X.env.scope.names.lookup x = some .local := by first | exact .inl rfl | exact .inr rfl) :
    DG X C (.Name x pos) (.nm i) := dg_of (pg_name hN hi hx hf)
theorem sSet (i : Nat) {x : Str} {e : Expr} {m : M EV} {pos pos' : Pos} (hN : X.N.Nodup) (h : DE X C e m) (hi : X.N[i]? = some x := by rfl) (hx : L2.Loc X.env.scope x := by first | exact .inl rfl | exact .inr rfl)
    (hs : swapsWith e (some (.Name x pos')) pos.line X.env = pure false := by rfl) (hf : X.fn x = true ∨ X.env.scope.names.lookup x = some .local := by first | exact .inl rfl | exact .inr rfl) :
    DS X C (.Assign [.Name x pos'] e pos) (mSet i m) := ds_set hN hi hx h hs hf
/-- a def that may be called -/
structure Cal (P : Program) (w : World) (K : PySem.W.Frag) (mg : Str → Option Value) (base : Heap) (k : Nat) (x : Str) (ps : List Str) (fm : FM) : Prop where
  ex : ∃ (f : Addr) (fd : FuncData), mg x = some (.ref f) ∧ PySem.W.keepIn K (.ref f) = true ∧ Binds K fd ps [] ∧ FnD P w K mg base k f fd ps fm
theorem cC {k j n : Nat} {ps : List Str} {fm : FM} {x : Str} {p pos : Pos} {e : Expr} {es : List Expr} {m : M (List EV)} (c : Cal X.prog X.w X.K X.mg X.base j x ps fm) (hr : Room k X.A) (hgd : X.A.guards = some []) (ha : DA X C (e :: es) m) (hjk : j ≤ k := by first | decide | omega) (hg : Gl X x := by rfl)
    (hdb : (x == ("__debug__" : Str)) = false := by decide) (he : starEach (e :: es) X.env = (false, eval e X.env) :: starEach es X.env := by rfl) (hpl : (backTo pos (starEach es X.env)).any (·.1) = false := by rfl) (hn : ps.length = n := by rfl) :
    DE X C (.Call (.Name x p) (e :: es) [] pos) (mCall n fm m) := by
  subst hn
  obtain ⟨f, fd, h1, h2, h3, h4⟩ := c.ex
  exact de_call (h4.mono hjk) hr hgd hg h1 h2 h3 ha hdb he hpl
end
section
variable {P : Program} {w : World} {K : PySem.W.Frag} {mg : Str → Option Value} {base : Heap}
open PySem.Spec PyProof.Rows
theorem fnd_ok {x : Str} {st : Stmt} {f : Addr} {fd : FuncData} {N ps : List Str} {k : Nat} {mb : M Fl} (Fu : Fun K x x st f fd) (S : FnScope N ps (defScope st))
    (hbody : ∀ (cdv : Value) (A : Around) (outer : List Env) (s : Shared) (H F : Hp) (l : DL.Loc), Room k (A.deeper (envOfC x (defScope st) s.heap.objs.size f cdv)) → A.guards = some [] →
      DSs (cxOf CXN P w K mg base N x (defScope st) f cdv A outer s H XN).nox (cIn K F H l) (defBody st) mb) : FnD P w K mg base (k + 1) f fd ps (bodyRun N.length mb) := by
  obtain ⟨oc, od, kV, doc, pm, an, cdv, ct, osl, rfl, lk, hcd⟩ := Fu.ex
  exact fnd_of lk hcd S fun A outer s H F l hr hg => hbody cdv A outer s H F l hr hg
theorem cal_of {x : Str} {st : Stmt} {f : Addr} {fd : FuncData} {ps : List Str} {k : Nat} {fm : FM} (Fu : Fun K x x st f fd) (hm : mg x = some (.ref f)) (hb : Binds K fd ps []) (h : FnD P w K mg base k f fd ps fm) : Cal P w K mg base k x ps fm :=
  ⟨f, fd, hm, Fu.kp, hb, h⟩
theorem units_of {A : Around} {k : Nat} (hr : Room k A) : A.units + 65 < cLine := by have := hr.un; omega
end
end DL
namespace DL
open PySem L2
theorem hu64 {n : Nat} (h : n + 65 < cLine) : n + 64 < cLine := by omega
theorem hu1 {n : Nat} (h : n + 65 < cLine) : n + 1 < cLine := by omega
theorem bt_len : bootBuiltins "len" = some (.builtin "len") := by decide +kernel
theorem bt_abs : bootBuiltins "abs" = some (.builtin "abs") := by decide +kernel
theorem bt_max : bootBuiltins "max" = some (.builtin "max") := by decide +kernel
theorem bt_min : bootBuiltins "min" = some (.builtin "min") := by decide +kernel
theorem bt_sum : bootBuiltins "sum" = some (.builtin "sum") := by decide +kernel
theorem bt_all : bootBuiltins "all" = some (.builtin "all") := by decide +kernel
theorem bt_any : bootBuiltins "any" = some (.builtin "any") := by decide +kernel
theorem bt_sorted : bootBuiltins "sorted" = some (.builtin "sorted") := by decide +kernel
theorem bt_int : bootBuiltins "int" = some (.type "int") := by decide +kernel
theorem bt_bool : bootBuiltins "bool" = some (.type "bool") := by decide +kernel
theorem bt_str : bootBuiltins "str" = some (.type "str") := by decide +kernel
theorem bt_list : bootBuiltins "list" = some (.type "list") := by decide +kernel
theorem bt_tuple : bootBuiltins "tuple" = some (.type "tuple") := by decide +kernel
end DL
namespace DL
open PySem L2
/-! ### mirrors, evaluated -/
abbrev NoX : Str → PyData → Env' → G → Prop := fun _ _ _ _ => False
theorem backE_get_in {e0 e : Env'} {i : Nat} {s : Slot} : ∀ {vs : List Nat}, i ∈ vs → e0[i]? = some s → i < e.length → (backE e0 e vs)[i]? = some s
  | v :: vs, hi, h0, hl => by
    unfold backE
    by_cases z : v = i
    · subst z
      rw [h0]
      dsimp only
      rw [List.getElem?_set_self (by rw [backE_length]; exact hl)]
    · have hi' : i ∈ vs := by
        rcases List.mem_cons.mp hi with q | q
        · exact absurd q.symm z
        · exact q
      split
      · rw [get_set_ne z]; exact backE_get_in hi' h0 hl
      · exact backE_get_in hi' h0 hl
theorem backE_get_out {e0 e : Env'} {i : Nat} : ∀ {vs : List Nat}, i ∉ vs → (backE e0 e vs)[i]? = e[i]?
  | [], _ => rfl
  | v :: vs, h => by
    rw [List.mem_cons, not_or] at h
    unfold backE
    split
    · rw [get_set_ne (fun z => h.1 z.symm)]; exact backE_get_out h.2
    · exact backE_get_out h.2
theorem backE_wipe (e : Env') (vs : List Nat) : backE e (wipeE e vs) vs = e := by
  refine List.ext_getElem? fun i => ?_
  by_cases hi : i ∈ vs
  · by_cases hl : i < e.length
    · rw [backE_get_in hi (List.getElem?_eq_getElem hl) (by rw [wipeE_length]; exact hl), List.getElem?_eq_getElem hl]
    · rw [List.getElem?_eq_none (by rw [backE_length, wipeE_length]; omega), List.getElem?_eq_none (by omega)]
  · rw [backE_get_out hi, wipeE_out hi]
theorem bind_eq {α β : Type} {m : M α} {f : α → M β} {e e' : Env'} {g g' : G} {a : α} (h : m e g = .ok a e' g') : M.bind m f e g = f a e' g' := by
  unfold M.bind
  rw [h]
/-! comprehensions -/
theorem loopC_ok {p : Pat} {vs : List Nat} {mt : M Bool} {me : M PyData} {t : PyData → Bool} {f : PyData → PyData} {e : Env'} {g : G} : ∀ (xs acc : List PyData), acc.length + xs.length ≤ sizeLine →
    (∀ x ∈ xs, ∃ e1, asg p x e = some e1 ∧ wipeE e1 vs = e ∧ mt e1 g = .ok (t x) e1 g ∧ (t x = true → me e1 g = .ok (f x) e1 g)) → loopC p vs mt me xs acc e g = .ok (acc ++ (xs.filter t).map f) e g
  | [], acc, _, _ => by simp [loopC, M.pure]
  | x :: xs, acc, hz, h => by
    obtain ⟨e1, h1, h2, h3, h4⟩ := h x (by simp)
    have hx : ∀ y ∈ xs, _ := fun y hy => h y (List.mem_cons_of_mem _ hy)
    rw [List.length_cons] at hz
    unfold loopC
    simp only [h1]
    rw [bind_eq h3]
    by_cases ht : t x = true
    · have h4' := h4 ht
      have hlt : acc.length < sizeLine := by omega
      rw [if_pos ht, bind_eq h4', if_pos hlt, h2, loopC_ok xs (acc ++ [f x]) (by simp; omega) hx]
      simp [List.filter_cons, ht]
    · have ht' : t x = false := by simpa using ht
      rw [if_neg ht, h2, loopC_ok xs acc (by omega) hx]
      simp [List.filter_cons, ht']
/-- a comprehension that changes nothing -/
theorem mComp_ok {p : Pat} {vs : List Nat} {mi : M (List PyData)} {mt : M Bool} {me : M PyData} (t : PyData → Bool) (f : PyData → PyData) {env env1 : Env'} {g g1 : G} {xs : List PyData} (hi : mi env g = .ok xs env1 g1) (no : noOwn env1 vs = true) (hz : xs.length ≤ sizeLine)
    (h : ∀ x ∈ xs, ∃ e1, asg p x (wipeE env1 vs) = some e1 ∧ wipeE e1 vs = wipeE env1 vs ∧ mt e1 g1 = .ok (t x) e1 g1 ∧ (t x = true → me e1 g1 = .ok (f x) e1 g1)) :
    mComp p vs mi mt me env g = .ok (.fr (.list ((xs.filter t).map f))) env1 g1 := by
  unfold mComp blockOf
  simp only [M.bind, hi, no, if_true, M.pure]
  rw [loopC_ok xs [] (by simpa using hz) h]
  simp [backE_wipe]
theorem mComp_all {p : Pat} {vs : List Nat} {mi : M (List PyData)} {me : M PyData} (f : PyData → PyData) {env env1 : Env'} {g g1 : G} {xs : List PyData} (hi : mi env g = .ok xs env1 g1) (no : noOwn env1 vs = true) (hz : xs.length ≤ sizeLine)
    (h : ∀ x ∈ xs, ∃ e1, asg p x (wipeE env1 vs) = some e1 ∧ wipeE e1 vs = wipeE env1 vs ∧ me e1 g1 = .ok (f x) e1 g1) :
    mComp p vs mi mYes me env g = .ok (.fr (.list (xs.map f))) env1 g1 := by
  have q := mComp_ok (mt := mYes) (fun _ => true) f hi no hz fun x hx => let ⟨e1, h1, h2, h3⟩ := h x hx; ⟨e1, h1, h2, rfl, fun _ => h3⟩
  rw [List.filter_eq_self.mpr (by simp)] at q
  exact q
/-- .. that changes things: I rest acc -/
theorem mComp_wp {p : Pat} {vs : List Nat} {mi : M (List PyData)} {mt : M Bool} {me : M PyData} {env env1 : Env'} {g g1 : G} {xs : List PyData} {K : EV → Env' → G → Prop} {E : Str → PyData → Env' → G → Prop} (I : List PyData → List PyData → Env' → G → Prop) (hi : mi env g = .ok xs env1 g1) (no : noOwn env1 vs = true)
    (h0 : I xs [] (wipeE env1 vs) g1)
    (hs : ∀ x rest acc e g, I (x :: rest) acc e g → ∃ e1, asg p x e = some e1 ∧ Wp (mt e1 g) (fun b e2 g2 => if b = true then Wp (me e2 g2) (fun y e3 g3 => acc.length < sizeLine ∧ I rest (acc ++ [y]) (wipeE e3 vs) g3) NoX else I rest acc (wipeE e2 vs) g2) NoX)
    (he : ∀ acc e g, I [] acc e g → K (.fr (.list acc)) (backE env1 e vs) g) : Wp (mComp p vs mi mt me env g) K E := by
  have main : ∀ (xs acc : List PyData) (e : Env') (g : G), I xs acc e g → Wp (loopC p vs mt me xs acc e g) (fun ys e' g' => K (.fr (.list ys)) (backE env1 e' vs) g') NoX := by
    intro xs
    induction xs with
    | nil => intro acc e g h; exact he acc e g h
    | cons x xs ih =>
      intro acc e g h
      obtain ⟨e1, h1, h2⟩ := hs x xs acc e g h
      unfold loopC
      simp only [h1]
      refine Wp.bind.mpr (h2.mono (fun b e2 g2 w => ?_) fun _ _ _ _ w => w)
      cases b with
      | true =>
        rw [if_pos rfl] at w ⊢
        refine Wp.bind.mpr (w.mono (fun y e3 g3 w => ?_) fun _ _ _ _ w => w)
        rw [if_pos w.1]
        exact ih _ _ _ w.2
      | false =>
        rw [if_neg Bool.false_ne_true] at w ⊢
        exact ih _ _ _ w
  have hw := main xs [] _ _ h0
  unfold mComp blockOf
  simp only [M.bind, hi, no, if_true]
  cases q : loopC p vs mt me xs [] (wipeE env1 vs) g1 with
  | ok ys e' g' => rw [q] at hw; exact hw
  | exc _ _ _ _ => rw [q] at hw; exact hw.elim
  | bad => rw [q] at hw; exact hw.elim
/-! loops -/
theorem forD_wp {p : Pat} {mb : M Fl} {K : Fl → Env' → G → Prop} {E : Str → PyData → Env' → G → Prop} (I : List PyData → Env' → G → Prop)
    (hs : ∀ x rest e g, I (x :: rest) e g → ∃ e1, asg p x e = some e1 ∧ Wp (mb e1 g) (fun fl e2 g2 => match fl with
      | .nx => I rest e2 g2
      | .ct => I rest e2 g2
      | .bk => K .nx e2 g2
      | .rt v => K (.rt v) e2 g2) E)
    (he : ∀ e g, I [] e g → K .nx e g) : ∀ (xs : List PyData) (e : Env') (g : G), I xs e g → Wp (forD p mb xs e g) K E
  | [], e, g, h => he e g h
  | x :: xs, e, g, h => by
    obtain ⟨e1, h1, h2⟩ := hs x xs e g h
    unfold forD
    simp only [h1]
    refine Wp.bind.mpr (h2.mono (fun fl e2 g2 w => ?_) fun _ _ _ _ w => w)
    cases fl with
    | nx => exact forD_wp I hs he xs e2 g2 w
    | ct => exact forD_wp I hs he xs e2 g2 w
    | bk => exact w
    | rt v => exact w
theorem mFor_wp {p : Pat} {mi : M (List PyData)} {mb : M Fl} {K : Fl → Env' → G → Prop} {E : Str → PyData → Env' → G → Prop} {env env1 : Env'} {g g1 : G} {xs : List PyData} (I : List PyData → Env' → G → Prop) (hi : mi env g = .ok xs env1 g1) (h0 : I xs env1 g1)
    (hs : ∀ x rest e g, I (x :: rest) e g → ∃ e1, asg p x e = some e1 ∧ Wp (mb e1 g) (fun fl e2 g2 => match fl with
      | .nx => I rest e2 g2
      | .ct => I rest e2 g2
      | .bk => K .nx e2 g2
      | .rt v => K (.rt v) e2 g2) E)
    (he : ∀ e g, I [] e g → K .nx e g) : Wp (mFor p mi mb env g) K E := by
  unfold mFor
  simp only [M.bind, hi]
  exact forD_wp I hs he xs env1 g1 h0
/-- a loop whose body goes on, by a step of the slots -/
theorem forD_fold {p : Pat} {mb : M Fl} {g : G} (st : Env' → PyData → Env') : ∀ (xs : List PyData) (e : Env'), (∀ x ∈ xs, ∀ pre, pre ++ [x] <+: xs → ∃ e1, asg p x (pre.foldl st e) = some e1 ∧ mb e1 g = .ok .nx (st (pre.foldl st e) x) g) → forD p mb xs e g = .ok .nx (xs.foldl st e) g
  | [], e, _ => rfl
  | x :: xs, e, h => by
    obtain ⟨e1, h1, h2⟩ := h x (by simp) [] (by simp)
    unfold forD
    simp only [List.foldl_nil] at h1 h2
    simp only [h1, M.bind, h2]
    rw [forD_fold st xs (st e x) fun y hy pre hp => by
      have := h y (List.mem_cons_of_mem _ hy) (x :: pre) (by simpa using hp)
      simpa using this]
    rfl
/-! calls -/
theorem mCall_ok {n : Nat} {fm : FM} {m : M (List EV)} {env env1 e2 : Env'} {g g1 g2 : G} {evs : List EV} {ev : EV} (hm : m env g = .ok evs env1 g1) (ha : evs.all isArg = true) (hn : evs.length = n) (h : fm evs g1 = .ok ev e2 g2) : mCall n fm m env g = .ok ev env1 g2 := by
  unfold mCall
  simp only [M.bind, hm]
  rw [if_pos ⟨ha, hn⟩, h]
theorem mCall_wp {n : Nat} {fm : FM} {m : M (List EV)} {env : Env'} {g : G} {K : EV → Env' → G → Prop} {E : Str → PyData → Env' → G → Prop} (hm : Wp (m env g) (fun evs env1 g1 => evs.all isArg = true ∧ evs.length = n ∧ WpF (fm evs g1) fun ev g2 => K ev env1 g2) E) : Wp (mCall n fm m env g) K E := by
  unfold mCall
  refine Wp.bind.mpr (hm.mono (fun evs env1 g1 w => ?_) fun _ _ _ _ w => w)
  obtain ⟨ha, hn, w⟩ := w
  rw [if_pos ⟨ha, hn⟩]
  cases q : fm evs g1 with
  | ok ev e2 g2 => rw [q] at w; exact w
  | exc _ _ _ _ => rw [q] at w; exact w.elim
  | bad => rw [q] at w; exact w.elim
theorem wpf_run {n : Nat} {mb : M Fl} {evs : List EV} {g : G} {K : EV → G → Prop} (h : Wp (mb (startE n evs) g) (fun fl _ g' => match fl with
    | .rt (.bo _) => False
    | .rt (.scr _) => False
    | .rt ev => K ev g'
    | .nx => K (.d .none) g'
    | _ => False) NoX) : WpF (bodyRun n mb evs g) K := by
  unfold bodyRun
  cases q : mb (startE n evs) g with
  | bad => rw [q] at h; exact h.elim
  | exc _ _ _ _ => rw [q] at h; exact h.elim
  | ok fl e g' =>
    rw [q] at h
    cases fl with
    | nx => exact h
    | bk => exact h
    | ct => exact h
    | rt v => cases v <;> exact h
theorem WpF.of {r : R EV} {ev : EV} {e : Env'} {g : G} {K : EV → G → Prop} (h : r = .ok ev e g) (k : K ev g) : WpF r K := by rw [h]; exact k
/-! isinstance, by cases -/
theorem isi_int_none  : isiD "int" .none = false := rfl
theorem isi_int_bool (b : Bool) : isiD "int" (.bool b) = true := rfl
theorem isi_int_int (i : Int) : isiD "int" (.int i) = true := rfl
theorem isi_int_str (z : Str) : isiD "int" (.str z) = false := rfl
theorem isi_int_list (ds : List PyData) : isiD "int" (.list ds) = false := rfl
theorem isi_int_tuple (ds : List PyData) : isiD "int" (.tuple ds) = false := rfl
theorem isi_int_dict (kv : List (PyData × PyData)) : isiD "int" (.dict kv) = false := rfl
theorem isi_bool_none  : isiD "bool" .none = false := rfl
theorem isi_bool_bool (b : Bool) : isiD "bool" (.bool b) = true := rfl
theorem isi_bool_int (i : Int) : isiD "bool" (.int i) = false := rfl
theorem isi_bool_str (z : Str) : isiD "bool" (.str z) = false := rfl
theorem isi_bool_list (ds : List PyData) : isiD "bool" (.list ds) = false := rfl
theorem isi_bool_tuple (ds : List PyData) : isiD "bool" (.tuple ds) = false := rfl
theorem isi_bool_dict (kv : List (PyData × PyData)) : isiD "bool" (.dict kv) = false := rfl
theorem isi_str_none  : isiD "str" .none = false := rfl
theorem isi_str_bool (b : Bool) : isiD "str" (.bool b) = false := rfl
theorem isi_str_int (i : Int) : isiD "str" (.int i) = false := rfl
theorem isi_str_str (z : Str) : isiD "str" (.str z) = true := rfl
theorem isi_str_list (ds : List PyData) : isiD "str" (.list ds) = false := rfl
theorem isi_str_tuple (ds : List PyData) : isiD "str" (.tuple ds) = false := rfl
theorem isi_str_dict (kv : List (PyData × PyData)) : isiD "str" (.dict kv) = false := rfl
theorem isi_tuple_none  : isiD "tuple" .none = false := rfl
theorem isi_tuple_bool (b : Bool) : isiD "tuple" (.bool b) = false := rfl
theorem isi_tuple_int (i : Int) : isiD "tuple" (.int i) = false := rfl
theorem isi_tuple_str (z : Str) : isiD "tuple" (.str z) = false := rfl
theorem isi_tuple_list (ds : List PyData) : isiD "tuple" (.list ds) = false := rfl
theorem isi_tuple_tuple (ds : List PyData) : isiD "tuple" (.tuple ds) = true := rfl
theorem isi_tuple_dict (kv : List (PyData × PyData)) : isiD "tuple" (.dict kv) = false := rfl
theorem isi_list_none  : isiD "list" .none = false := rfl
theorem isi_list_bool (b : Bool) : isiD "list" (.bool b) = false := rfl
theorem isi_list_int (i : Int) : isiD "list" (.int i) = false := rfl
theorem isi_list_str (z : Str) : isiD "list" (.str z) = false := rfl
theorem isi_list_list (ds : List PyData) : isiD "list" (.list ds) = true := rfl
theorem isi_list_tuple (ds : List PyData) : isiD "list" (.tuple ds) = false := rfl
theorem isi_list_dict (kv : List (PyData × PyData)) : isiD "list" (.dict kv) = false := rfl
/-! ### ints -/
def isort (ns : List Int) : List Int := ns.mergeSort fun a b => decide (a ≤ b)
theorem alike_ints (ns : List Int) : ((ns.map PyData.int).all fun d => (ns.map PyData.int).all fun d' => PySem.W.alike d d') = true := by
  simp [PySem.W.alike]
theorem sortOk_ints (ns : List Int) : sortOk (ns.map .int) = true := by
  unfold sortOk
  rw [alike_ints]
  simp [plainKey, PyData.depth]
theorem sortD_ints (ns : List Int) : sortD (ns.map .int) = (isort ns).map .int := by
  unfold sortD isort
  have h := PySem.W.sort_maps (r := PySem.W.dataLe false fun n : Int => PyData.int n) (s := PySem.W.dataLe false (id : PyData → PyData)) (fun n : Int => PyData.int n) (l := ns) fun a _ b _ => rfl
  rw [← h, PySem.W.dataLe_int (fun n : Int => n)]
theorem eqvAll_ints : ∀ a b : List Int, PyData.eqvAll (a.map .int) (b.map .int) = decide (a = b)
  | [], [] => by simp [PyData.eqvAll]
  | [], b :: bs => by simp [PyData.eqvAll]
  | a :: as, [] => by simp [PyData.eqvAll]
  | a :: as, b :: bs => by
    simp only [List.map_cons, PyData.eqvAll, PyData.eqv, eqvAll_ints as bs, List.cons.injEq]
    by_cases h1 : a = b <;> by_cases h2 : as = bs <;> simp [h1, h2]
theorem canLay_ints : ∀ a : List Int, PyData.canLayAll0 (a.map .int) = true
  | [] => by simp [PyData.canLayAll0]
  | a :: as => by simp [PyData.canLayAll0, PyData.canLay0, canLay_ints as]
theorem depth_ints : ∀ a : List Int, PyData.depthAll (a.map .int) = 0
  | [] => by simp [PyData.depthAll]
  | a :: as => by simp [PyData.depthAll, PyData.depth, depth_ints as]
theorem shaped_lints (a : List Int) : SeqAt.shaped (.list (a.map .int)) = true := by
  simp [SeqAt.shaped, PyData.canLay0, PyData.depth, canLay_ints, depth_ints]
theorem shaped_tints (a : List Int) : SeqAt.shaped (.tuple (a.map .int)) = true := by
  simp [SeqAt.shaped, PyData.canLay0, PyData.depth, canLay_ints, depth_ints]
theorem shaped_int (i : Int) : SeqAt.shaped (.int i) = true := by
  simp [SeqAt.shaped, PyData.canLay0, PyData.depth]
theorem eq_lints (a b : List Int) : pyEq (.list (a.map .int)) (.list (b.map .int)) = some (.d (.bool (decide (a = b)))) := by
  unfold pyEq eqOk
  rw [shaped_lints, shaped_lints]
  simp [PyData.eqv, eqvAll_ints]
theorem eq_tints (a b : List Int) : pyEq (.tuple (a.map .int)) (.tuple (b.map .int)) = some (.d (.bool (decide (a = b)))) := by
  unfold pyEq eqOk
  rw [shaped_tints, shaped_tints]
  simp [PyData.eqv, eqvAll_ints]
theorem ne_tints (a b : List Int) : pyNe (.tuple (a.map .int)) (.tuple (b.map .int)) = some (.d (.bool (decide (a ≠ b)))) := by
  unfold pyNe eqOk
  rw [shaped_tints, shaped_tints]
  simp [PyData.eqv, eqvAll_ints]
theorem eq_ints (a b : Int) : pyEq (.int a) (.int b) = some (.d (.bool (decide (a = b)))) := by
  unfold pyEq eqOk
  rw [shaped_int, shaped_int]
  by_cases h : a = b <;> simp [PyData.eqv, h]
theorem ne_ints (a b : Int) : pyNe (.int a) (.int b) = some (.d (.bool (decide (a ≠ b)))) := by
  unfold pyNe eqOk
  rw [shaped_int, shaped_int]
  by_cases h : a = b <;> simp [PyData.eqv, h]
theorem ne_nil (ds : List PyData) : pyNe (.list ds) (.list []) = some (.d (.bool (decide (ds ≠ [])))) := by
  cases ds with
  | nil => rfl
  | cons d ds => simp [pyNe, eqOk, otherLen, PyData.eqv, PyData.eqvAll]
/-- small ints from 0 -/
def ints0 (n : Nat) : List Int := (List.range n).map fun i : Nat => (i : Int)
theorem intsFrom_zero (n : Nat) : intsFrom 0 n = (ints0 n).map .int := by
  simp [intsFrom, ints0, Function.comp_def]
theorem rgInts_zero (n : Nat) : rgInts 0 (n : Int) = (ints0 n).map .int := by
  simp [rgInts, ints0, Function.comp_def]
theorem ints0_length (n : Nat) : (ints0 n).length = n := by simp [ints0]
theorem rgOk_nat {n : Nat} (h : n ≤ 2 ^ 24) : rgOk 0 (n : Int) = true := by
  unfold rgOk
  simp only [Bool.and_eq_true, decide_eq_true_eq]
  omega
theorem rgTo_nat {n : Nat} (h : n ≤ 2 ^ 24) : rgTo 0 (n : Int) = some ((ints0 n).map .int) := by
  unfold rgTo
  rw [rgOk_nat h, rgInts_zero]
  rfl
theorem rngTo_nat {n : Nat} (h : n ≤ 2 ^ 24) : rngTo 0 (n : Int) = some ((ints0 n).map .int) := by
  unfold rngTo
  rw [if_pos (by omega), Int.sub_zero, Int.toNat_natCast, intsFrom_zero]
theorem szd_of {ds : List PyData} (h : ds.length ≤ 2 ^ 24) : szd ds = some ds := by
  unfold szd
  rw [if_pos (by rw [sizeLine_eq]; omega)]
theorem add_tups {a b : List PyData} (h : a.length + b.length ≤ 2 ^ 24) : pyAdd (.tuple a) (.tuple b) = some (.d (.tuple (a ++ b))) := by
  have : a.length + b.length ≤ sizeLine := by rw [sizeLine_eq]; omega
  simp [pyAdd, this]
theorem add_lsts {a b : List PyData} (h : a.length + b.length ≤ 2 ^ 24) : pyAdd (.list a) (.list b) = some (.fr (.list (a ++ b))) := by
  have : a.length + b.length ≤ sizeLine := by rw [sizeLine_eq]; omega
  simp [pyAdd, this]
theorem add_ints (i j : Int) : pyAdd (.int i) (.int j) = some (.d (.int (i + j))) := rfl
theorem len_tup (ds : List PyData) : DL.pyLen [.tuple ds] = some (.d (.int (ds.length : Nat))) := rfl
theorem len_lst (ds : List PyData) : DL.pyLen [.list ds] = some (.d (.int (ds.length : Nat))) := rfl
theorem mRgL_nat {f : List PyData → RV} {m : M (Int × Int)} {env env1 : Env'} {g g1 : G} {n : Nat} (h : m env g = .ok (0, (n : Int)) env1 g1) (hn : n ≤ 2 ^ 24) : mRgL f m env g = .ok (f ((ints0 n).map .int)).ev env1 g1 := by
  unfold mRgL
  rw [bind_eq h, rgGo_eq, rgTo_nat hn]
  rfl
theorem isInt_ints {ds : List PyData} (h : (ds.all fun d => match d with | .int _ => true | _ => false) = true) : ∃ ns : List Int, ds = ns.map .int := by
  induction ds with
  | nil => exact ⟨[], rfl⟩
  | cons d ds ih =>
    rw [List.all_cons, Bool.and_eq_true] at h
    obtain ⟨ns, rfl⟩ := ih h.2
    cases d <;> first | (exact ⟨_ :: ns, rfl⟩) | (simp at h)
theorem get_cells (s : Src) : srcGetD s "cells" = some (.src true) := rfl
theorem get_left (s : Src) : srcGetD s "left" = some (.d (.int s.left)) := rfl
theorem get_mixed (s : Src) : srcGetD s "mixed" = some (.d (.int s.mixed)) := rfl
theorem get_turn (s : Src) : srcGetD s "turn" = some (.d (.int s.turn)) := rfl
theorem put_left (s : Src) (i : Int) : srcPutD s "left" i = some { s with left := i } := rfl
theorem put_mixed (s : Src) (i : Int) : srcPutD s "mixed" i = some { s with mixed := i } := rfl
theorem put_turn (s : Src) (i : Int) : srcPutD s "turn" i = some { s with turn := i } := rfl
theorem lt_ints (i j : Int) : pyCmpI (fun i j => decide (i < j)) (.int i) (.int j) = some (.d (.bool (decide (i < j)))) := rfl
theorem gt_ints (i j : Int) : pyCmpI (fun i j => decide (j < i)) (.int i) (.int j) = some (.d (.bool (decide (j < i)))) := rfl
theorem le_ints (i j : Int) : pyCmpI (fun i j => decide (i ≤ j)) (.int i) (.int j) = some (.d (.bool (decide (i ≤ j)))) := rfl
theorem ge_ints (i j : Int) : pyCmpI (fun i j => decide (j ≤ i)) (.int i) (.int j) = some (.d (.bool (decide (j ≤ i)))) := rfl
theorem int_int (i : Int) : pyInt [.int i] = some (.d (.int i)) := rfl
theorem max2_ints (i j : Int) : pyMax2 [.int i, .int j] = some (.d (.int (max i j))) := by
  have e : (if j > i then j else i) = max i j := by
    by_cases h : j > i
    · rw [if_pos h, Int.max_eq_right (by omega)]
    · rw [if_neg h, Int.max_eq_left (by omega)]
  show some (RV.d (.int (if j > i then j else i))) = _
  rw [e]
theorem mod_ints {i j : Int} (h : 0 < j) : pyMod (.int i) (.int j) = some (.d (.int (i % j))) := by simp [pyMod, h]
theorem fdiv_ints {i j : Int} (h : 0 < j) (h2 : j ≤ 1000000000) : pyFloorDiv (.int i) (.int j) = some (.d (.int (i / j))) := by
  have : j.natAbs.log2 < 9000 := by
    have h3 : j.natAbs < 2 ^ 30 := by omega
    have := (Nat.log2_lt (by omega)).mpr h3
    omega
  simp [pyFloorDiv, h, this]
theorem mul_right {i j : Int} (h : j.natAbs < 2 ^ 64) : pyMul (.int i) (.int j) = some (.d (.int (i * j))) := by
  have : mulOk i j = true := by simp [mulOk, h]
  simp [pyMul, this]
end DL
namespace DL
open PySem L2
/-! ### data that is small: what repr asks -/
def atomOk : PyData → Bool
  | .none => true
  | .bool _ => true
  | .int i => decide (i.natAbs < 10 ^ 40)
  | .str z => decide ((reprText z).length ≤ 50)
  | .dict kvs => kvs.isEmpty
  | _ => false
/-- at most k rows within one another, at most 12 items in each -/
def RL : Nat → PyData → Bool
  | 0, x => atomOk x
  | k + 1, x => atomOk x || match x with
    | .list ds => decide (ds.length ≤ 12) && ds.all (RL k)
    | .tuple ds => decide (ds.length ≤ 12) && ds.all (RL k)
    | _ => false
def bnd : Nat → Nat
  | 0 => 60
  | k + 1 => 4 + 12 * (bnd k + 2)
theorem textFrom_le {b : Nat} : ∀ (ts : List Str) (k : Nat) (acc : Str), (∀ t ∈ ts, t.length ≤ b) → (textFrom k acc ts).length ≤ acc.length + ts.length * (b + 2)
  | [], k, acc, _ => by show acc.length ≤ _; omega
  | t :: r, k, acc, h => by
    have ih := textFrom_le r (k + 1) (acc ++ (if k > 0 then ", " else "" : String) ++ t) fun x hx => h x (List.mem_cons_of_mem _ hx)
    have e : (acc ++ (if k > 0 then ", " else "" : String) ++ t).length ≤ acc.length + 2 + t.length := by
      rw [strLen_append, strLen_append]
      split
      · exact Nat.le_refl _
      · show acc.length + 0 + t.length ≤ _
        omega
    have ht := h t (by simp)
    rw [List.length_cons, Nat.add_mul, Nat.one_mul]
    show (textFrom (k + 1) _ r).length ≤ _
    omega
theorem listText_le {b : Nat} {ts : List Str} (h : ∀ t ∈ ts, t.length ≤ b) : (listText ts).length ≤ 4 + ts.length * (b + 2) := by
  have h1 := textFrom_le ts 0 "[" h
  have e0 : ("[" : Str).length = 1 := rfl
  have e1 : ("]" : Str).length = 1 := rfl
  unfold listText
  rw [strLen_append, e1]
  rw [e0] at h1
  omega
theorem piled_le {b : Nat} : ∀ {ts : List Str}, (∀ t ∈ ts, t.length ≤ b) → piled ts ≤ ts.length * (b + 2)
  | [], _ => by simp [piled]
  | t :: r, h => by
    have ih := piled_le (ts := r) fun x hx => h x (List.mem_cons_of_mem _ hx)
    have ht := h t (by simp)
    rw [List.length_cons, Nat.add_mul, Nat.one_mul]
    simp only [piled, List.map_cons, List.sum_cons] at ih ⊢
    omega
theorem tupleText_le {b : Nat} {ts : List Str} (h : ∀ t ∈ ts, t.length ≤ b) : (tupleText ts).length ≤ 4 + ts.length * (b + 2) := by
  have h1 := piled_le h
  have hj : (Str.join ", " ts).length ≤ piled ts := by
    by_cases z : ts = []
    · subst z; exact Nat.le_refl _
    · have := join_length_add ts z
      omega
  have e0 : ("(" : Str).length = 1 := rfl
  unfold tupleText
  rw [strLen_append, strLen_append, e0]
  split
  · show 1 + _ + 2 ≤ _
    omega
  · show 1 + _ + 1 ≤ _
    omega
theorem shownAll_mem : ∀ {ds : List PyData} {t : Str}, t ∈ PyData.shownAll ds → ∃ d ∈ ds, t = d.shown
  | [], t, h => by simp [PyData.shownAll] at h
  | d :: ds, t, h => by
    rw [PyData.shownAll] at h
    rcases List.mem_cons.mp h with q | q
    · exact ⟨d, by simp, q⟩
    · obtain ⟨e, he, q⟩ := shownAll_mem q
      exact ⟨e, List.mem_cons_of_mem _ he, q⟩
theorem shownAll_len : ∀ ds : List PyData, (PyData.shownAll ds).length = ds.length
  | [] => rfl
  | d :: ds => by rw [PyData.shownAll, List.length_cons, shownAll_len ds, List.length_cons]
theorem showableAll_of : ∀ {ds : List PyData}, (∀ d ∈ ds, d.showable = true) → PyData.showableAll ds = true
  | [], _ => by simp [PyData.showableAll]
  | d :: ds, h => by
    rw [PyData.showableAll, h d (by simp), showableAll_of fun x hx => h x (List.mem_cons_of_mem _ hx)]
    rfl
theorem depthAll_le {k : Nat} : ∀ {ds : List PyData}, (∀ d ∈ ds, d.depth ≤ k) → PyData.depthAll ds ≤ k
  | [], _ => by simp [PyData.depthAll]
  | d :: ds, h => by
    have h1 := h d (by simp)
    have h2 := depthAll_le (ds := ds) fun x hx => h x (List.mem_cons_of_mem _ hx)
    rw [PyData.depthAll]
    omega
theorem atom_shown {x : PyData} (h : atomOk x = true) : x.showable = true ∧ x.depth ≤ 1 ∧ x.shown.length ≤ 60 := by
  cases x with
  | none => exact ⟨by simp [PyData.showable], by simp [PyData.depth], by simp only [PyData.shown]; decide⟩
  | bool b => exact ⟨by simp [PyData.showable], by simp [PyData.depth], by cases b <;> (simp only [PyData.shown]; decide)⟩
  | int i =>
    have h1 : i.natAbs < 10 ^ 40 := of_decide_eq_true h
    have h2 : i.natAbs.log2 < 1920 := by
      by_cases z : i.natAbs = 0
      · rw [z]; decide
      · exact (Nat.log2_lt z).mpr (Nat.lt_trans h1 (by decide))
    refine ⟨by simp [PyData.showable, h2], by simp [PyData.depth], ?_⟩
    have := int_text_length_le10 (a := i) (k := 40) (by omega) h1
    simp only [PyData.shown]
    show (Str.ofString (toString i)).length ≤ 60
    rw [ofString_length]
    omega
  | str z => exact ⟨by simp [PyData.showable], by simp [PyData.depth], by
      have h1 : (reprText z).length ≤ 50 := of_decide_eq_true h
      simp only [PyData.shown]
      omega⟩
  | dict kvs =>
    have : kvs = [] := by simpa [atomOk] using h
    subst this
    exact ⟨by simp [PyData.showable, PyData.showableKv], by simp [PyData.depth, PyData.depthKv], by simp only [PyData.shown, PyData.shownKv]; decide⟩
  | list ds => cases h
  | tuple ds => cases h
theorem bnd_ge : ∀ k : Nat, 60 ≤ bnd k
  | 0 => Nat.le_refl _
  | k + 1 => by have := bnd_ge k; show 60 ≤ 4 + 12 * (bnd k + 2); omega
theorem RL_shown : ∀ (k : Nat) (x : PyData), RL k x = true → x.showable = true ∧ x.depth ≤ k + 1 ∧ x.shown.length ≤ bnd k
  | 0, x, h => by
    obtain ⟨h1, h2, h3⟩ := atom_shown h
    exact ⟨h1, h2, h3⟩
  | k + 1, x, h => by
    unfold RL at h
    rw [Bool.or_eq_true] at h
    rcases h with h | h
    · obtain ⟨h1, h2, h3⟩ := atom_shown h
      refine ⟨h1, by omega, ?_⟩
      show _ ≤ 4 + 12 * (bnd k + 2)
      have := bnd_ge k
      omega
    · have core : ∀ ds : List PyData, ds.length ≤ 12 → (∀ d ∈ ds, RL k d = true) → PyData.showableAll ds = true ∧ PyData.depthAll ds ≤ k + 1 ∧ (∀ t ∈ PyData.shownAll ds, t.length ≤ bnd k) := fun ds _ ha =>
        ⟨showableAll_of fun d hd => (RL_shown k d (ha d hd)).1, depthAll_le fun d hd => (RL_shown k d (ha d hd)).2.1, fun t ht => by
          obtain ⟨d, hd, rfl⟩ := shownAll_mem ht
          exact (RL_shown k d (ha d hd)).2.2⟩
      cases x with
      | list ds =>
        rw [Bool.and_eq_true, decide_eq_true_eq, List.all_eq_true] at h
        obtain ⟨c1, c2, c3⟩ := core ds h.1 h.2
        refine ⟨by simpa [PyData.showable] using c1, by simp only [PyData.depth]; omega, ?_⟩
        have := listText_le c3
        rw [shownAll_len] at this
        simp only [PyData.shown]
        show _ ≤ 4 + 12 * (bnd k + 2)
        have : ds.length * (bnd k + 2) ≤ 12 * (bnd k + 2) := Nat.mul_le_mul_right _ h.1
        omega
      | tuple ds =>
        rw [Bool.and_eq_true, decide_eq_true_eq, List.all_eq_true] at h
        obtain ⟨c1, c2, c3⟩ := core ds h.1 h.2
        refine ⟨by simpa [PyData.showable] using c1, by simp only [PyData.depth]; omega, ?_⟩
        have := tupleText_le c3
        rw [shownAll_len] at this
        simp only [PyData.shown]
        show _ ≤ 4 + 12 * (bnd k + 2)
        have : ds.length * (bnd k + 2) ≤ 12 * (bnd k + 2) := Nat.mul_le_mul_right _ h.1
        omega
      | _ => cases h
theorem RL_up : ∀ (k : Nat) (x : PyData), RL k x = true → RL (k + 1) x = true
  | 0, x, h => by unfold RL; rw [show atomOk x = true from h]; rfl
  | k + 1, x, h => by
    unfold RL at h ⊢
    rw [Bool.or_eq_true] at h ⊢
    refine h.imp id fun h => ?_
    cases x with
    | list ds =>
      rw [Bool.and_eq_true, List.all_eq_true] at h ⊢
      exact ⟨h.1, fun d hd => RL_up k d (h.2 d hd)⟩
    | tuple ds =>
      rw [Bool.and_eq_true, List.all_eq_true] at h ⊢
      exact ⟨h.1, fun d hd => RL_up k d (h.2 d hd)⟩
    | _ => exact h
theorem RL_le {j k : Nat} {x : PyData} (h : RL j x = true) (e : j ≤ k) : RL k x = true := by
  induction e with
  | refl => exact h
  | step _ ih => exact RL_up _ _ ih
theorem RL_repr {x : PyData} (h : RL 4 x = true) : reprOk x = true := by
  obtain ⟨h1, h2, h3⟩ := RL_shown 4 x h
  have h4 : x.shown.length ≤ sizeLine := by
    rw [sizeLine_eq]
    exact Nat.le_trans h3 (by decide)
  unfold reprOk
  rw [h1, decide_eq_true (show x.depth ≤ 60 by omega), decide_eq_true h4]
  rfl
end DL
namespace DL
open PySem L2
/-! ### a op b op c -/
def mChain (g1 g2 : PyData → PyData → Option RV) (ma mb mc : M EV) : M EV := ma.bind fun a => mb.bind fun b => fun env g =>
  match look env a, look env b with
  | some x, some y => match g1 x y with
    | some (.d (.bool k)) => if k then (mc.bind fun c => fun env g => match look env b, look env c with
        | some y, some z => M.opt ((g2 y z).map RV.ev) env g
        | _, _ => .bad) env g else .ok (.d (.bool false)) env g
    | _ => .bad
  | _, _ => .bad
section
variable {X : Cx} {C : DCx} {pos : Pos}
theorem simChain {r r' : R2} {gop gop' : PyData → PyData → Option RV} {ta tb tc : TE} {ma mb mc : M EV} (ha : SimE C ta ma) (hb : SimE C tb mb) (hc : SimE C tc mc)
    (hr : ∀ (F H : Hp) (v w : V) (x y : PyData) (Q : VK) (ev : RV), Same F H → Bor C.K F H v x → Bor C.K F H w y → gop x y = some ev → ResK C.K F H Q ev → r v w H Q)
    (hr' : ∀ (F H : Hp) (v w : V) (x y : PyData) (Q : VK) (ev : RV), Same F H → Bor C.K F H v x → Bor C.K F H w y → gop' x y = some ev → ResK C.K F H Q ev → r' v w H Q) : SimE C (tChain r r' ta tb tc) (mChain gop gop' ma mb mc) := by
  intro σ F H l env g Q R w
  refine ha σ F H l env g _ R (Wp.mono (Wp.bind.mp w) (fun a env1 g1 w v F1 H1 l1 R1 x1 r1 f1 => ?_) fun _ _ _ _ w => w)
  refine hb σ F1 H1 l1 env1 g1 _ R1 (Wp.mono (Wp.bind.mp w) (fun b env2 g2 w u F2 H2 l2 R2 x2 r2 f2 => ?_) fun _ _ _ _ w => w)
  have x02 := x1.trans (C := C) x2
  have r1' := r1.up x2
  split at w
  · rename_i x y e1 e2
    split at w
    · rename_i k hk
      refine hr F2 H2 v u x y _ (.d (.bool k)) R2.sub (r1'.look R2 e1) (r2.look R2 e2) hk fun z F3 H3 nw => ?_
      obtain ⟨R3, x3, r3⟩ := R2.new nw
      refine ⟨k, rep_bool.mp nw.rep, ?_⟩
      cases k with
      | false => exact w _ F3 H3 l2 R3 (x02.trans (C := C) x3) RepEV.ofb trivial
      | true =>
        rw [if_pos rfl] at w ⊢
        refine hc σ F3 H3 l2 env2 g2 _ R3 (Wp.mono (Wp.bind.mp w) (fun c env3 g3 wf q F4 H4 l4 R4 x4 r4 f4 => ?_) fun _ _ _ _ w => w)
        have r2' := (r2.up x3).up x4
        split at wf
        · rename_i y' z' e3 e4
          cases hg : gop' y' z' with
          | none => rw [hg] at wf; exact wf.elim
          | some ev =>
            rw [hg] at wf
            exact hr' F4 H4 u q y' z' Q ev R4.sub (r2'.look R4 e3) (r4.look R4 e4) hg (KE.res R4 (KE.up wf ((x02.trans (C := C) x3).trans (C := C) x4)))
        · exact wf.elim
    · exact w.elim
  · exact w.elim
theorem de_chain {a b c : Expr} {op op' : CmpOp} {gop gop' : PyData → PyData → Option RV} {ma mb mc : M EV} (ho : OpD X (compareOp op) gop) (ho' : OpD X (compareOp op') gop') (ha : DE X C a ma) (hb : DE X C b mb) (hc : DE X C c mc)
    (hm : lastMarks [op, op'] [b, c] = false := by with_unfolding_all rfl) : DE X C (.Compare a [op, op'] [b, c] pos) (mChain gop gop' ma mb mc) := by
  refine ⟨fun hK => ?_⟩
  obtain ⟨ta, h1, s1⟩ := ha.run hK
  obtain ⟨tb, h2, s2⟩ := hb.run hK
  obtain ⟨tc, h3, s3⟩ := hc.run hK
  obtain ⟨r, hr, hs⟩ := ho
  obtain ⟨r', hr', hs'⟩ := ho'
  exact ⟨_, pe_chain hr hr' h1 h2 h3 hm, simChain s1 s2 s3 (by rw [hK]; exact hs) (by rw [hK]; exact hs')⟩
theorem dt_chain {a b c : Expr} {op op' : CmpOp} {gop gop' : PyData → PyData → Option RV} {ma mb mc : M EV} (ho : OpD X (compareOp op) gop) (ho' : OpD X (compareOp op') gop') (ha : DE X C a ma) (hb : DE X C b mb) (hc : DE X C c mc)
    (hm : lastMarks [op, op'] [b, c] = false := by with_unfolding_all rfl) : DT X C (.Compare a [op, op'] [b, c] pos) ((mChain gop gop' ma mb mc).bind mBool) := by
  refine ⟨fun hK => ?_⟩
  obtain ⟨ta, h1, s1⟩ := ha.run hK
  obtain ⟨tb, h2, s2⟩ := hb.run hK
  obtain ⟨tc, h3, s3⟩ := hc.run hK
  obtain ⟨r, hr, hs⟩ := ho
  obtain ⟨r', hr', hs'⟩ := ho'
  exact ⟨_, pt_chain hr hr' h1 h2 h3 hm, simTest (simChain s1 s2 s3 (by rw [hK]; exact hs) (by rw [hK]; exact hs'))⟩
end
/-! ### (*a, b) -/
def tStar (K : PySem.W.Frag) (te : TE) (t : TA) : TA := fun σ H Q => te σ H fun x H1 => ∃ a xs, x = .ref a ∧ (SqL K H1 a xs ∨ SqT K H1 a xs) ∧ t σ H1 fun vs H2 => Q (xs ++ vs) H2
section
open PySem.W
variable {X : Cx} {e : Expr} {es : List Expr} {te : TE} {t : TA} {p : Pos}
theorem pa_star (he : PE X e te) (hr : PA X es t) (hs : starEach (.Starred e p :: es) X.env = (true, eval e X.env) :: starEach es X.env := by rfl) : PA X (.Starred e p :: es) (tStar X.K te t) := by
  refine ⟨fun pos pins s σ H Q I h => ?_⟩
  refine items_star (thn (he.run pins s σ H _ I h) fun v s1 ⟨x, H1, I1, r1, a, xs, ex, hx, q⟩ => ?_) hs
  subst ex
  cases r1
  have go : ∀ (its : List Value) (h' : Heap), Vals xs its → (∀ b o, s1.heap.get? b = some o → h'.get? b = some o) → wpAny (model X.prog X.w) X.A (spliced (backTo pos (starEach es X.env))) (fun vs s3 => AP X pins σ Q (its ++ vs) s3) X.xe { s1 with heap := h' } := fun its h' rv hk =>
    thn (hr.run pos pins { s1 with heap := h' } σ H1 _ (I1.kept (t' := s1.toks) hk) q) fun us s3 ⟨vs, H2, I2, r2, q2⟩ => ⟨xs ++ vs, H2, I2, rv.append r2, q2⟩
  unfold StarOf notIterableAtAll
  rcases hx with hx | hx
  · obtain ⟨its, rv, ⟨o, n, ho, hc, hd, hdat⟩, hz⟩ := I1.list hx
    have hT : s1.TypeIs (.ref a) "list" := ⟨o, ho, hc⟩
    refine wpAny_bind (wpAny_specialOf hT PySem.F.slot_list_iter.lookup (wpAny_pure ⟨rfl, ?_⟩))
    exact wpAny_collect_seq a (.inl rfl) ho hc hdat (fun h' hk => by simpa using go its h' rv hk) (by rw [List.size_toArray, ← rv.length]; exact hz)
  · obtain ⟨its, rv, ⟨o, ho, hc, n, hdat⟩, hz⟩ := I1.tuple hx
    have hT : s1.TypeIs (.ref a) "tuple" := ⟨o, ho, hc⟩
    refine wpAny_bind (wpAny_specialOf hT PySem.F.slot_tuple_iter.lookup (wpAny_pure ⟨rfl, ?_⟩))
    exact wpAny_collect_seq a (.inr rfl) ho hc hdat (fun h' hk => by simpa using go its h' rv hk) (by rw [List.size_toArray, ← rv.length]; exact hz)
end
def mStar (ma : M EV) (mr : M (List EV)) : M (List EV) := ma.bind fun a => fun env g => match look env a with
  | some (.list ds) => (mr.bind fun r => M.pure (ds.map EV.d ++ r)) env g
  | some (.tuple ds) => (mr.bind fun r => M.pure (ds.map EV.d ++ r)) env g
  | _ => .bad
theorem paired_rep {C : DCx} {σ : L2.St} {F H H0 : Hp} {l : Loc} {env : Env'} : ∀ {ds : List PyData} {vs : List V}, RepL C.K F vs ds → Paired (fun v ev => RepEV C σ F H l env v ev ∧ FreshAt H0 v ev) vs (ds.map EV.d)
  | [], vs, h => by rw [repL_nil] at h; subst h; exact .nil
  | d :: ds, vs, h => by
    obtain ⟨v, r, rfl, q, t⟩ := repL_cons.mp h
    exact .cons ⟨q, trivial⟩ (paired_rep t)
theorem paired_append {α β : Type} {P : α → β → Prop} : ∀ {xs : List α} {ys : List β} {us : List α} {ws : List β}, Paired P xs ys → Paired P us ws → Paired P (xs ++ us) (ys ++ ws)
  | _, _, _, _, .nil, h => h
  | _, _, _, _, .cons r t, h => .cons r (paired_append t h)
section
variable {X : Cx} {C : DCx} {e : Expr} {es : List Expr} {p : Pos}
theorem da_star {ma : M EV} {mr : M (List EV)} (ha : DE X C e ma) (hr : DA X C es mr) (hs : starEach (.Starred e p :: es) X.env = (true, eval e X.env) :: starEach es X.env := by rfl) : DA X C (.Starred e p :: es) (mStar ma mr) := by
  refine ⟨fun hK => ?_⟩
  obtain ⟨ta, h1, s1⟩ := ha.run hK
  obtain ⟨tr, h2, s2⟩ := hr.run hK
  refine ⟨_, pa_star h1 h2 hs, fun σ F H l env g Q R w => ?_⟩
  refine s1 σ F H l env g _ R (Wp.mono (Wp.bind.mp w) (fun a env1 g1 w v F1 H1 l1 R1 x1 r1 f1 => ?_) fun _ _ _ _ w => w)
  have core : ∀ (ds : List PyData) (b : Addr) (us : List V), v = V.ref b → (SqL X.K H1 b us ∨ SqT X.K H1 b us) → RepL C.K F1 us ds → Wp ((mr.bind fun r => M.pure (ds.map EV.d ++ r)) env1 g1) (KA C σ F H l env Q) (KX C σ) →
      ∃ a xs, v = .ref a ∧ (SqL X.K H1 a xs ∨ SqT X.K H1 a xs) ∧ tr σ H1 fun vs H2 => Q (xs ++ vs) H2 := fun ds b us ev hq rl w => by
    refine ⟨b, us, ev, hq, ?_⟩
    refine s2 σ F1 H1 l1 env1 g1 _ R1 (Wp.mono (Wp.bind.mp w) (fun as env2 g2 w vs F2 H2 l2 R2 x2 r2 => ?_) fun _ _ _ _ w => w)
    exact w (us ++ vs) F2 H2 l2 R2 (x1.trans (C := C) x2) (paired_append (paired_rep (RepL.up x2.fs _ _ rl)) (Paired.imp (fun _ _ q => ⟨q.1, q.2.dn x1.hd⟩) r2))
  split at w
  · rename_i ds e1
    obtain ⟨b, us, ev, q, rl⟩ := (r1.look R1 e1).seq R1.sub
    exact core ds b us ev (.inl (SqL.of q)) rl w
  · rename_i ds e1
    obtain ⟨b, us, ev, q, rl⟩ := (r1.look R1 e1).tup R1.sub
    exact core ds b us ev (.inr (by rw [← hK]; exact q)) rl w
  · exact w.elim
end
end DL
namespace DL
open PySem L2
/-! ### <, <=, >, >= of ints, and of alike tuples -/
def cmpOk (x y : PyData) : Bool := PySem.W.alike x y && decide (x.depth ≤ 50)
def pyCmp (p : Int → Int → Bool) (q : PyData → PyData → Bool) (x y : PyData) : Option RV := match x, y with
  | .int i, .int j => some (.d (.bool (p i j)))
  | .tuple xs, .tuple ys => if cmpOk (.tuple xs) (.tuple ys) then some (.d (.bool (q (.tuple xs) (.tuple ys)))) else none
  | _, _ => none
def pyLt : PyData → PyData → Option RV := pyCmp (fun i j => decide (i < j)) fun x y => PySem.W.dataLt x y
def pyLe : PyData → PyData → Option RV := pyCmp (fun i j => decide (i ≤ j)) fun x y => !PySem.W.dataLt y x
def pyGt : PyData → PyData → Option RV := pyCmp (fun i j => decide (j < i)) fun x y => PySem.W.dataLt y x
def pyGe : PyData → PyData → Option RV := pyCmp (fun i j => decide (j ≤ i)) fun x y => !PySem.W.dataLt x y
section
variable {X : Cx}
theorem opd_cmp {f : Value → Value → Sem Value} {p : Int → Int → Bool} {q : PyData → PyData → Bool} (hu : X.A.units + 64 < cLine) (h : OpR X f (rI0 fun i j => .bl (p i j)))
    (ht : ∀ {A : Around} {E : Value → Shared → Prop} {s : Shared} {a b : Value} {da db : PyData} {as bs : List Addr} {Q : Value → Shared → Prop}, Reads s.heap a da as → Reads s.heap b db bs → PySem.W.alike da db = true → da ≠ .none → A.units + min da.depth db.depth < cLine → Q (.bool (q da db)) s →
      wpAny (model X.prog X.w) A (f a b) Q E s) : OpD X f (pyCmp p q) := by
  refine opd_of ?_
  intro pins s σ H x y v u Q I rx ry hh
  obtain ⟨F, d, e, ev, hs, hd, he, hg, hq⟩ := hh
  cases d <;> cases e <;> first | (cases hg; done) | skip
  · rename_i i j
    cases hg
    exact h pins s σ H x y v u Q I rx ry ⟨i, j, hd.int, he.int, hq.val hs (rep_bool.mpr rfl)⟩
  · rename_i xs ys
    obtain ⟨as, r1⟩ := hd.reads I hs rx
    obtain ⟨bs, r2⟩ := he.reads I hs ry
    obtain ⟨h1, rfl⟩ := if_some hg
    unfold cmpOk at h1
    rw [Bool.and_eq_true] at h1
    have h2 := of_decide_eq_true h1.2
    refine ht r1 r2 h1.1 (fun h => by cases h) (Nat.lt_of_le_of_lt (Nat.add_le_add_left (Nat.min_le_left _ _) _) (by omega)) ?_
    exact ⟨.bl _, H, I, rfl, by simpa using hq.val hs (rep_bool.mpr rfl)⟩
theorem opd_ltX (hu : X.A.units + 64 < cLine) : OpD X (compareOp .Lt) pyLt := opd_cmp hu op_lt fun a b c d e f => PySem.W.lt_data a b c d e f
theorem opd_leX (hu : X.A.units + 64 < cLine) : OpD X (compareOp .LtE) pyLe := opd_cmp hu op_le fun a b c d e f => PySem.W.le_data a b c d e f
theorem opd_gtX (hu : X.A.units + 64 < cLine) : OpD X (compareOp .Gt) pyGt := opd_cmp hu op_gt fun a b c d e f => PySem.W.gt_data a b c d e f
theorem opd_geX (hu : X.A.units + 64 < cLine) : OpD X (compareOp .GtE) pyGe := opd_cmp hu op_ge fun a b c d e f => PySem.W.ge_data a b c d e f
end
theorem ltX_ints (i j : Int) : pyLt (.int i) (.int j) = some (.d (.bool (decide (i < j)))) := rfl
theorem leX_ints (i j : Int) : pyLe (.int i) (.int j) = some (.d (.bool (decide (i ≤ j)))) := rfl
theorem gtX_ints (i j : Int) : pyGt (.int i) (.int j) = some (.d (.bool (decide (j < i)))) := rfl
theorem geX_ints (i j : Int) : pyGe (.int i) (.int j) = some (.d (.bool (decide (j ≤ i)))) := rfl
theorem dataLt_tints (xs ys : List Int) : PySem.W.dataLt (.tuple (xs.map .int)) (.tuple (ys.map .int)) = decide (xs < ys) := by
  rw [PySem.W.dataLt_tuple]
  exact PySem.W.dataLt_ints xs ys
theorem cmpOk_tints (xs ys : List Int) : cmpOk (.tuple (xs.map .int)) (.tuple (ys.map .int)) = true := by
  unfold cmpOk
  rw [Bool.and_eq_true]
  refine ⟨by rw [PySem.W.alike]; exact PySem.W.alike_ints xs ys, ?_⟩
  have h : (PyData.tuple (xs.map .int)).depth = PyData.depthAll (xs.map .int) + 1 := by rw [PyData.depth]
  rw [h, PySem.W.depth_ints]
  rfl
theorem ltX_tints (xs ys : List Int) : pyLt (.tuple (xs.map .int)) (.tuple (ys.map .int)) = some (.d (.bool (decide (xs < ys)))) := by
  show (if cmpOk _ _ then _ else _) = _
  rw [cmpOk_tints, if_pos rfl]; simp only [dataLt_tints]
theorem gtX_tints (xs ys : List Int) : pyGt (.tuple (xs.map .int)) (.tuple (ys.map .int)) = some (.d (.bool (decide (ys < xs)))) := by
  show (if cmpOk _ _ then _ else _) = _
  rw [cmpOk_tints, if_pos rfl]; simp only [dataLt_tints]
theorem leX_tints (xs ys : List Int) : pyLe (.tuple (xs.map .int)) (.tuple (ys.map .int)) = some (.d (.bool (!decide (ys < xs)))) := by
  show (if cmpOk _ _ then _ else _) = _
  rw [cmpOk_tints, if_pos rfl]; simp only [dataLt_tints]
theorem geX_tints (xs ys : List Int) : pyGe (.tuple (xs.map .int)) (.tuple (ys.map .int)) = some (.d (.bool (!decide (xs < ys)))) := by
  show (if cmpOk _ _ then _ else _) = _
  rw [cmpOk_tints, if_pos rfl]; simp only [dataLt_tints]
end DL
namespace DL
open PySem L2
/-! ### plain lists of ints, shared by the laws -/
def isWholeD : PyData → Bool
  | .int _ => true
  | _ => false
theorem boolsOf_mapf {α : Type} (f : α → Bool) : ∀ ds : List α, boolsOf (ds.map fun x => .bool (f x)) = some (ds.map f)
  | [] => rfl
  | d :: ds => by simp [boolsOf, boolsOf_mapf f ds]
theorem all_mapf {α : Type} (f : α → Bool) (ds : List α) : pyAll [.list (ds.map fun x => .bool (f x))] = some (.d (.bool (ds.all f))) := by
  simp [pyAll, boolsOf_mapf, List.all_map]
theorem sorted_tints (ns : List Int) : pySorted [.tuple (ns.map .int)] = some (.fr (.list ((isort ns).map .int))) := by
  simp [pySorted, sortOk_ints, sortD_ints]
theorem sorted_lints (ns : List Int) : pySorted [.list (ns.map .int)] = some (.fr (.list ((isort ns).map .int))) := by
  simp [pySorted, sortOk_ints, sortD_ints]
theorem intsOf_whole : ∀ {ds : List PyData}, (intsOf ds).isSome = ds.all isWholeD
  | [] => rfl
  | d :: ds => by
    cases d <;> simp [intsOf, isWholeD, ← intsOf_whole (ds := ds)]
/-- an order: each place once -/
def isPerm (ns : List Int) : Bool := decide (isort ns = ints0 ns.length)
def isOrdD : PyData → Bool
  | .tuple ds => match intsOf ds with
    | some ns => isPerm ns
    | none => false
  | _ => false
/-- a tuple of ints -/
abbrev ti (ns : List Int) : PyData := .tuple (ns.map .int)
abbrev li (ns : List Int) : PyData := .list (ns.map .int)
def at0 (ns : List Int) (p : Int) : Int := ns.getD p.toNat 0
theorem atI_ints {ns : List Int} {p : Int} (h0 : 0 ≤ p) (h1 : p < ns.length) : atI (ns.map PyData.int) p = some (.int (at0 ns p)) := by
  obtain ⟨k, rfl⟩ := Int.eq_ofNat_of_zero_le h0
  have hk : k < ns.length := by omega
  have e : (ns.map PyData.int)[k]? = some (.int (at0 ns (k : Int))) := by
    simp [at0, List.getElem?_map, hk]
  exact atI_nat e
def ofI (f : Int → Int) : PyData → PyData
  | .int p => .int (f p)
  | _ => .none
theorem map_ofI (f : Int → Int) (ns : List Int) : (ns.map PyData.int).map (ofI f) = (ns.map f).map .int := by
  simp [ofI, Function.comp_def]
def rankI (hs : List Int) (h : Int) : Int := ((isort hs).idxOf h : Nat)
def orderAt (ns ps : List Int) : List Int := (ps.map (at0 ns)).map (rankI (ps.map (at0 ns)))
theorem isort_mem {ns : List Int} {h : Int} : h ∈ isort ns ↔ h ∈ ns := (List.mergeSort_perm _ _).mem_iff
theorem isort_length (ns : List Int) : (isort ns).length = ns.length := (List.mergeSort_perm _ _).length_eq
theorem findIdx_ints (h : Int) : ∀ low : List Int, h ∈ low → (low.map PyData.int).findIdx? (fun z => PyData.eqv z (.int h)) = some (low.idxOf h)
  | [], hm => by simp at hm
  | l :: low, hm => by
    by_cases e : l = h
    · subst e
      simp [List.findIdx?_cons, PyData.eqv]
    · have hm' : h ∈ low := by
        rcases List.mem_cons.mp hm with q | q
        · exact absurd q.symm e
        · exact q
      have eb : (l == h) = false := by simpa using e
      simp [List.findIdx?_cons, PyData.eqv, findIdx_ints h low hm', List.idxOf_cons, eb]
theorem index_ints {hs : List Int} {h : Int} (hm : h ∈ hs) : pyIndex (li (isort hs)) (.int h) = some (.d (.int (rankI hs h))) := by
  have q := findIdx_ints h (isort hs) (isort_mem.mpr hm)
  simp only [pyIndex, shaped_lints, shaped_int, Bool.and_self, if_true, indexD, q, Option.map_some, rankI, oneI]
theorem cut_to {ns : List Int} {i : Int} (h0 : 0 ≤ i) : cutD (ns.map PyData.int) none (some i) = (ns.take i.toNat).map .int := by
  obtain ⟨k, rfl⟩ := Int.eq_ofNat_of_zero_le h0
  unfold cutD
  rw [HT.sIx_none, HT.sIx_nat, List.drop_zero, Nat.sub_zero, Int.toNat_natCast, List.length_map, ← List.map_take]
  congr 1
  by_cases h : k ≤ ns.length
  · rw [Nat.min_eq_left h]
  · rw [Nat.min_eq_right (by omega), List.take_of_length_le (by omega), List.take_of_length_le (by omega)]
theorem cut_one (ds : List PyData) : cutD ds (some 1) none = ds.drop 1 := by
  unfold cutD
  rw [show HT.sIx ds.length 0 (some 1) = min 1 ds.length from HT.sIx_nat ds.length 0 1, HT.sIx_none]
  cases ds with
  | nil => rfl
  | cons d ds =>
    rw [show min 1 (d :: ds).length = 1 by rw [List.length_cons]; omega]
    exact List.take_of_length_le (by simp)
theorem mem_ints0 {n : Nat} {i : Int} : i ∈ ints0 n ↔ 0 ≤ i ∧ i < n := by
  unfold ints0
  rw [List.mem_map]
  constructor
  · rintro ⟨k, hk, rfl⟩
    have := List.mem_range.mp hk
    omega
  · rintro ⟨h0, h1⟩
    exact ⟨i.toNat, List.mem_range.mpr (by omega), by omega⟩
def onI (f : Int → Bool) : PyData → Bool
  | .int p => f p
  | _ => false
theorem filter_onI (f : Int → Bool) : ∀ ns : List Int, (ns.map PyData.int).filter (onI f) = (ns.filter f).map .int
  | [] => rfl
  | n :: ns => by
    by_cases h : f n = true <;> simp [List.filter_cons, onI, h, filter_onI f ns]
theorem map_id_ints (ns : List Int) : (ns.map PyData.int).map id = ns.map .int := by simp
theorem all_bools {α : Type} (f : α → Bool) (ds : List α) : pyAll [.list (ds.map fun x => .bool (f x))] = some (.d (.bool (ds.all f))) := all_mapf f ds
end DL
/-! more words: gcd, three names at once, a list's item stored -/
namespace DL
open PySem L2
def pyGcd : List PyData → Option RV
  | [.int i, .int j] => some (oneI ((Nat.gcd i.natAbs j.natAbs : Nat) : Int))
  | _ => none
theorem calld_gcd {X : Cx} : CallD X (.builtin "math.gcd") pyGcd := by
  refine ⟨_, cr_gcd, fun F H vs xs Q ev hs hb hg hq => ?_⟩
  unfold pyGcd at hg
  split at hg
  · cases hg
    cases hb with | cons b1 b2 => cases b2 with | cons b2 b3 => cases b3; exact ⟨_, _, by rw [b1.int, b2.int], hq.val hs (rep_int.mpr rfl)⟩
  · cases hg
theorem de_callBfun {X : Cx} {C : DCx} {pos : Pos} {es : List Expr} {x : Str} {id : String} {p : Pos} {a : Expr} {gop : List PyData → Option RV} {m : M (List EV)} (hc : CallD X (.builtin id) gop) (hg : Gl X x) (hm : X.mg x = some (.builtin id)) (ha : DA X C (a :: es) m)
    (hdb : (x == ("__debug__" : Str)) = false := by decide) (he : starEach (a :: es) X.env = (false, eval a X.env) :: starEach es X.env := by rfl) (hpl : (backTo pos (starEach es X.env)).any (·.1) = false := by rfl) :
    DE X C (.Call (.Name x p) (a :: es) [] pos) (mCallB gop m) := by
  refine ⟨fun hK => ?_⟩
  obtain ⟨t, ht, s⟩ := ha.run hK
  obtain ⟨r, hr, hs⟩ := hc
  exact ⟨_, pe_callBfun hr hg hm ht hdb he hpl, simCallB s (by rw [hK]; exact hs)⟩
/-- a global constant -/
def Konst (mg : Str → Option Value) (K : PySem.W.Frag) (x : Str) (d : PyData) : Prop := ∃ (u : Value) (v : V), mg x = some u ∧ RelV v u ∧ ∀ F, Rep K F v d
theorem de_konst {X : Cx} {C : DCx} {x : Str} {d : PyData} {p : Pos} (hg : Gl X x) (hm : Konst X.mg X.K x d) (hd : (x == ("__debug__" : Str)) = false := by decide) : DE X C (.Name x p) (mK d) := by
  refine ⟨fun hK => ?_⟩
  obtain ⟨u, v, h1, h2, h3⟩ := hm
  exact (de_glob (C := C) hg h1 h2 (fun F => by rw [hK]; exact h3 F) hd).run hK
theorem konst_int {mg : Str → Option Value} {K : PySem.W.Frag} {x : Str} {i : Int} {t : Nat} (h : mg x = some (.int i t)) : Konst mg K x (.int i) := ⟨_, .int i, h, ⟨t, rfl⟩, fun F => rep_int.mpr rfl⟩
theorem konst_str {mg : Str → Option Value} {K : PySem.W.Frag} {x : Str} {i : Str} {t : Nat} (h : mg x = some (.str i t)) : Konst mg K x (.str i) := ⟨_, .str i, h, ⟨t, rfl⟩, fun F => rep_str.mpr rfl⟩
def AtomsR : List PyData → List Value → Prop
  | [], [] => True
  | .int i :: ds, u :: us => (∃ t, u = .int i t) ∧ AtomsR ds us
  | .str i :: ds, u :: us => (∃ t, u = .str i t) ∧ AtomsR ds us
  | _, _ => False
theorem atomsR {K : PySem.W.Frag} {F : Hp} : ∀ {ds : List PyData} {us : List Value}, AtomsR ds us → ∃ vs, Vals vs us ∧ RepL K F vs ds
  | [], [], _ => ⟨[], .nil, repL_nil.mpr rfl⟩
  | .int i :: ds, u :: us, h => by
    obtain ⟨⟨t, rfl⟩, h⟩ := h
    obtain ⟨vs, h1, h2⟩ := atomsR h
    exact ⟨.int i :: vs, .cons ⟨t, rfl⟩ h1, repL_cons.mpr ⟨_, _, rfl, rep_int.mpr rfl, h2⟩⟩
  | .str i :: ds, u :: us, h => by
    obtain ⟨⟨t, rfl⟩, h⟩ := h
    obtain ⟨vs, h1, h2⟩ := atomsR h
    exact ⟨.str i :: vs, .cons ⟨t, rfl⟩ h1, repL_cons.mpr ⟨_, _, rfl, rep_str.mpr rfl, h2⟩⟩
theorem konst_tup {mg : Str → Option Value} {K : PySem.W.Frag} {x : Str} {a : Addr} {ds : List PyData} {its : Array Value} {od : Option Addr} {n : Nat} {sl : Array (Option Value)} (h : mg x = some (.ref a)) (hl : K.lookup a = some ⟨.type "tuple", od, .seq its n, sl⟩) (hz : its.size ≤ 1000) (hd : AtomsR ds its.toList) : Konst mg K x (.tuple ds) :=
  ⟨_, .ref a, h, rfl, fun F => by
    obtain ⟨vs, h1, h2⟩ := atomsR (K := K) (F := F) hd
    exact rep_tup.mpr ⟨a, vs, rfl, .inr ⟨_, its, n, hl, rfl, rfl, by rw [sizeLine_eq]; omega, h1⟩, h2⟩⟩
section
variable {X : Cx} {C : DCx} {pos pos' : Pos} {o e ix : Expr}
theorem ds_par3 {i j k : Nat} {x y z : Str} {a b c : Expr} {m : M (List EV)} {px py pz pt : Pos} {kt k2 : Nat} {pt2 : Pos} (hc : X.calm = true) (hN : X.N.Nodup) (hi : X.N[i]? = some x) (hj : X.N[j]? = some y) (hk : X.N[k]? = some z) (hij : i ≠ j) (hik : i ≠ k) (hjk : j ≠ k)
    (hx : X.env.scope.names.lookup x = some .local) (hy : X.env.scope.names.lookup y = some .local) (hz : X.env.scope.names.lookup z = some .local) (h : DA X C [a, b, c] m)
    (hw : swappedStores [.Tuple [.Name x px, .Name y py, .Name z pz] kt pt] (.Tuple [a, b, c] k2 pt2) X.env = pure (some [x, y, z]))
    (hs : swapsWithSole [.Tuple [.Name x px, .Name y py, .Name z pz] kt pt] (.Tuple [a, b, c] k2 pt2) pos.line X.env = pure false := by rfl) :
    DS X C (.Assign [.Tuple [.Name x px, .Name y py, .Name z pz] kt pt] (.Tuple [a, b, c] k2 pt2) pos) (mPar3 i j k m) := by
  refine ⟨fun hK => ?_⟩
  obtain ⟨t, k1, s1⟩ := h.run hK
  refine ⟨_, ps_par3 hc hN hi hj hk hij hik hjk hx hy hz k1 hw hs, fun σ F H l env g D R w => ?_⟩
  refine s1 σ F H l env g _ R (Wp.mono (Wp.bind.mp w).xs (fun evs env1 g1 w vs F1 H1 l1 R1 x1 r1 => ?_) fun _ _ _ _ w => w)
  split at w
  · rename_i dx dy dz
    cases r1 with
    | cons r1 t1 =>
      cases t1 with
      | cons r2 t2 =>
        cases t2 with
        | cons r3 t3 =>
          cases t3
          exact ⟨_, _, _, rfl, w _ F1 H1 l1 (((R1.setd i r1.1).setd j r2.1).setd k r3.1) x1.fs⟩
  · exact w.elim
/-- a list's item stored: found[k] = v -/
def mPutAt (j : Nat) (mv mi : M PyData) : M Fl := mv.bind fun d => fun env g => if ownIs j env = true then (mi.bind fun x => fun env g =>
  match x, ownL j env with
  | .int k, some ds => match ixN ds.length k with
    | some n => .ok .nx (env.set j (.own (.list (ds.set n d)))) g
    | none => .bad
  | _, _ => .bad) env g else .bad
theorem ds_putAt {j : Nat} {mv mi : M PyData} (ho : PE X o (tVar j)) (hv : DD X C e mv) (hi : DD X C ix mi)
    (ha : ∀ v, assign (.Subscript o ix pos') X.env v = (do
      let ov ← holding [v] (eval o X.env)
      let iv ← holding [v, ov] (eval ix X.env)
      standAt pos'
      holding [v, ov, iv] (setItem ov iv v)
      release [v, ov, iv] []) := by intro _; rfl)
    (hs : swapsWithSole [.Subscript o ix pos'] e pos.line X.env = pure false := by rfl) (hw : swappedStores [.Subscript o ix pos'] e X.env = pure none := by rfl) :
    DS X C (.Assign [.Subscript o ix pos'] e pos) (mPutAt j mv mi) := by
  refine ⟨fun hK => ?_⟩
  obtain ⟨tv, h1, s1⟩ := hv.run hK
  obtain ⟨ti, h2, s2⟩ := hi.run hK
  refine ⟨_, ps_asg h1 (pg_sub ho h2 set_list ha) hs hw, fun σ F H l env g D R w => ?_⟩
  refine s1 σ F H l env g _ R (Wp.mono (Wp.bind.mp w).xs (fun d env1 g1 w v F1 H1 l1 R1 x1 r1 => ?_) fun _ _ _ _ w => w)
  obtain ⟨h0, w⟩ := wp_iteR w
  obtain ⟨ds0, e0⟩ := ownIs_eq h0
  obtain ⟨a, vs0, q1, q2, q3⟩ := R1.ownLst e0
  refine ⟨.ref a, q1, ?_⟩
  refine s2 σ F1 H1 l1 env1 g1 _ R1 (Wp.mono (Wp.bind.mp w).xs (fun x env2 g2 w u F2 H2 l2 R2 x2 r2 => ?_) fun _ _ _ _ w => w)
  split at w
  · rename_i k ds e1
    cases c : ixN ds.length k with
    | none => rw [c] at w; exact w.elim
    | some n =>
      rw [c] at w
      have e1 := ownL_eq e1
      obtain ⟨b, vs, k1, k2, k3⟩ := R2.ownLst e1
      rw [q1] at k1
      cases k1
      have hu : u = .int k := rep_int.mp r2
      subst hu
      obtain ⟨R3, x3⟩ := R2.put e1 q1 (RepL.set (i := n) k3 (Rep.up x2.fs _ _ r1))
      exact ⟨a, vs, k, n, rfl, rfl, k2, by rw [k3.length]; exact c, w σ F2 _ l2 R3 (x1.fs.trans x2.fs)⟩
  · exact w.elim
/-- two names at once, what is new stays one's own -/
def mParF (i j : Nat) (ma mb : M EV) : M Fl := ma.bind fun x => mb.bind fun y => fun env g => match slotOf x, slotOf y with
  | some s, some t => .ok .nx ((env.set i s).set j t) g
  | _, _ => .bad
theorem ds_parF {i j : Nat} {x y : Str} {a b : Expr} {ma mb : M EV} {px py pt : Pos} {kt k2 : Nat} {pt2 : Pos} (hc : X.calm = true) (hN : X.N.Nodup) (hi : X.N[i]? = some x) (hj : X.N[j]? = some y) (hij : i ≠ j)
    (hx : X.env.scope.names.lookup x = some .local) (hy : X.env.scope.names.lookup y = some .local) (ha : DE X C a ma) (hb : DE X C b mb)
    (hw : swappedStores [.Tuple [.Name x px, .Name y py] kt pt] (.Tuple [a, b] k2 pt2) X.env = pure (some [x, y]))
    (hs : swapsWithSole [.Tuple [.Name x px, .Name y py] kt pt] (.Tuple [a, b] k2 pt2) pos.line X.env = pure false := by rfl)
    (na : starEach [a, b] X.env = (false, eval a X.env) :: starEach [b] X.env := by rfl) (nb : starEach [b] X.env = (false, eval b X.env) :: starEach [] X.env := by rfl) :
    DS X C (.Assign [.Tuple [.Name x px, .Name y py] kt pt] (.Tuple [a, b] k2 pt2) pos) (mParF i j ma mb) := by
  refine ⟨fun hK => ?_⟩
  obtain ⟨ta, k1, s1⟩ := ha.run hK
  obtain ⟨tb, k2, s2⟩ := hb.run hK
  refine ⟨_, ps_par hc hN hi hj hij hx hy (pa_cons k1 (pa_cons k2 pa_nil nb) na) hw hs, fun σ F H l env g D R w => ?_⟩
  refine s1 σ F H l env g _ R (Wp.mono (Wp.bind.mp w).xs (fun ev1 env1 g1 w v F1 H1 l1 R1 x1 r1 f1 => ?_) fun _ _ _ _ w => w)
  refine s2 σ F1 H1 l1 env1 g1 _ R1 (Wp.mono (Wp.bind.mp w).xs (fun ev2 env2 g2 w u F2 H2 l2 R2 x2 r2 f2 => ?_) fun _ _ _ _ w => w)
  split at w
  · rename_i z1 z2 e1 e2
    refine ⟨v, u, rfl, w _ F2 H2 l2 ((R2.sets i (r1.up x2) e1).sets j ?_ e2) (x1.fs.trans x2.fs)⟩
    cases ev2 with
    | d d => exact r2
    | fr d =>
      obtain ⟨a, e, o, q1, q2, q3, q4⟩ := r2
      refine ⟨a, e, o, q1, q2, q3, fun ⟨k, y, h1, h2⟩ => ?_⟩
      rcases get_set_cases h1 with ⟨z, w'⟩ | ⟨z, q⟩
      · subst z
        have hv : v = V.ref a := by
          have hl : i < σ.length := by
            rcases Nat.lt_or_ge i σ.length with z | z
            · exact z
            · rw [List.getElem?_eq_none (by rw [List.length_set]; exact z)] at h2; cases h2
          rw [List.getElem?_set_self hl] at h2
          cases h2
          rfl
        cases ev1 with
        | d d => cases e1; cases w'
        | fr d1 =>
          obtain ⟨a1, e3, o1, _⟩ := r1
          rw [hv] at e3
          cases e3
          obtain ⟨oo, ho⟩ := o1.some
          have := f2 a e
          rw [ho] at this
          cases this
        | bo _ => cases e1
        | src _ => cases e1; cases w'
        | scr _ => cases e1; cases w'
      · rw [get_set_ne z] at h2
        exact q4 ⟨k, y, q, h2⟩
    | bo _ => cases e2
    | src b => exact r2
    | scr ns => exact r2
  · exact w.elim
/-! all that is owned is lent as data for a while -/
def fz : Slot → Slot
  | .own x => .d x
  | s => s
def frzE (e : Env') : Env' := e.map fz
def frzK : Nat → Env' → Env'
  | 0, e => e
  | k + 1, e => match (frzK k e)[k]? with
    | some (.own x) => (frzK k e).set k (.d x)
    | _ => frzK k e
theorem frzK_len (e : Env') : ∀ k, (frzK k e).length = e.length
  | 0 => rfl
  | k + 1 => by
    unfold frzK
    split
    · rw [List.length_set, frzK_len e k]
    · exact frzK_len e k
theorem frzK_get (e : Env') : ∀ k j, (frzK k e)[j]? = if j < k then e[j]?.map fz else e[j]?
  | 0, j => by simp [frzK]
  | k + 1, j => by
    have ih := frzK_get e k
    have hk := ih k
    rw [if_neg (Nat.lt_irrefl k)] at hk
    unfold frzK
    by_cases hj : j = k
    · subst hj
      rw [if_pos (Nat.lt_succ_self j)]
      split
      · rename_i x q
        rw [hk] at q
        have hl : j < (frzK j e).length := by
          rw [frzK_len]
          rcases Nat.lt_or_ge j e.length with z | z
          · exact z
          · rw [List.getElem?_eq_none z] at q; cases q
        rw [List.getElem?_set_self hl, q]
        rfl
      · rename_i q
        rw [hk] at q ⊢
        cases r : e[j]? with
        | none => rfl
        | some s => cases s with
          | own x => exact absurd r (q x)
          | _ => rfl
    · have h2 : (if j < k + 1 then e[j]?.map fz else e[j]?) = if j < k then e[j]?.map fz else e[j]? := by
        by_cases h : j < k
        · rw [if_pos h, if_pos (by omega)]
        · rw [if_neg h, if_neg (by omega)]
      rw [h2, ← ih j]
      split
      · rw [List.getElem?_set_ne (fun z => hj z.symm)]
      · rfl
theorem frzK_all (e : Env') : frzK e.length e = frzE e := by
  refine List.ext_getElem? fun j => ?_
  rw [frzK_get, frzE, List.getElem?_map]
  by_cases h : j < e.length
  · rw [if_pos h]
  · rw [if_neg h, List.getElem?_eq_none (by omega)]; rfl
theorem frzE_own {σ : L2.St} {e : Env'} {a : Addr} (h : OwnAt σ (frzE e) a) : False := by
  obtain ⟨i, x, h, _⟩ := h
  rw [frzE, List.getElem?_map] at h
  cases q : e[i]? with
  | none => rw [q] at h; cases h
  | some s => rw [q] at h; cases s <;> cases h
section
variable {σ : L2.St} {F H : Hp} {l : Loc} {env : Env'} {g : G}
theorem Rel.frzAll (R : Rel C σ F H l env g) : ∃ F', Same F F' ∧ Rel C σ F' H l (frzE env) g ∧ ∀ a, F' a ≠ none → F a ≠ none ∨ OwnAt σ env a := by
  have main : ∀ k, ∃ F', Same F F' ∧ Rel C σ F' H l (frzK k env) g ∧ ∀ a, F' a ≠ none → F a ≠ none ∨ OwnAt σ env a := by
    intro k
    induction k with
    | zero => exact ⟨F, .refl _, R, fun _ h => .inl h⟩
    | succ k ih =>
      obtain ⟨F', s, R', h⟩ := ih
      unfold frzK
      split
      · rename_i x q
        obtain ⟨a, u, h1, h2, h3, h4, h5, _⟩ := R'.leak q
        refine ⟨_, s.trans (Same.upd h3), h5, fun b hb => ?_⟩
        by_cases z : b = a
        · subst z
          obtain ⟨i, y, e, e2⟩ := h4
          rw [frzK_get] at e
          split at e
          · cases r : env[i]? with
            | none => rw [r] at e; cases e
            | some s => rw [r] at e; cases s <;> cases e
          · exact .inr ⟨i, y, e, e2⟩
        · rw [upd_ne z] at hb; exact h b hb
      · exact ⟨F', s, R', h⟩
  have := main env.length
  rw [frzK_all] at this
  exact this
end
mutual
def noLst : PyData → Bool
  | .list _ => false
  | .dict _ => false
  | .tuple ds => noLsts ds
  | _ => true
def noLsts : List PyData → Bool
  | [] => true
  | d :: ds => noLst d && noLsts ds
end
def mThaw (m : M EV) : M EV := fun env g => match m (frzE env) g with
  | .ok (.d x) _ g' => if noLst x then .ok (.d x) env g' else .bad
  | _ => .bad
theorem SrcRep.less {F F' H : Hp} {l : Loc} {g : G} (r : SrcRep F H l g) (h : ∀ a, F a = none → F' a = none) : SrcRep F' H l g := by
  cases l with
  | none => cases g <;> exact r
  | some p =>
    cases g with
    | none => exact r
    | some s => obtain ⟨h1, h2, h3, h4, h5⟩ := r; exact ⟨h1, h2, h3, h _ h4, h _ h5⟩
section
variable {K : PySem.W.Frag} {F1 F2 : Hp} (h : ∀ a o, F1 a = some o → (∀ vs, o = .tup vs → F2 a = some o) ∧ ∀ q vs, o = .frz q (.tup vs) → F2 a = some o)
include h
mutual
theorem rep_noLst : ∀ (x : PyData) (v : V), noLst x = true → Rep K F1 v x → Rep K F2 v x
  | .none, _, _, r => by simpa only [Rep] using r
  | .bool b, _, _, r => by simpa only [Rep] using r
  | .int i, _, _, r => by simpa only [Rep] using r
  | .str z, _, _, r => by simpa only [Rep] using r
  | .list ds, _, n, _ => by simp [noLst] at n
  | .dict ds, _, n, _ => by simp [noLst] at n
  | .tuple ds, v, n, r => by
    obtain ⟨a, vs, e, q, t⟩ := rep_tup.mp r
    refine rep_tup.mpr ⟨a, vs, e, ?_, rep_noLsts ds vs (by simpa [noLst] using n) t⟩
    rcases q with (q | ⟨o, q⟩) | q
    · exact .inl (.inl ((h _ _ q).1 _ rfl))
    · exact .inl (.inr ⟨o, (h _ _ q).2 _ _ rfl⟩)
    · exact .inr q
theorem rep_noLsts : ∀ (ds : List PyData) (vs : List V), noLsts ds = true → RepL K F1 vs ds → RepL K F2 vs ds
  | [], _, _, r => by simpa only [RepL] using r
  | d :: ds, vs, n, r => by
    obtain ⟨v, rr, e, q, t⟩ := repL_cons.mp r
    have n : (noLst d && noLsts ds) = true := by simpa only [noLsts] using n
    rw [Bool.and_eq_true] at n
    exact repL_cons.mpr ⟨v, rr, e, rep_noLst d v n.1 q, rep_noLsts ds rr n.2 t⟩
end
end
open Classical in
theorem de_thaw {m : M EV} (h : DE X C e m) : DE X C e (mThaw m) := by
  refine ⟨fun hK => ?_⟩
  obtain ⟨t, ht, s⟩ := h.run hK
  refine ⟨t, ht, fun σ F H l env g Q R w => ?_⟩
  obtain ⟨F', sF, R', gr⟩ := R.frzAll
  refine s σ F' H l (frzE env) g Q R' ?_
  unfold mThaw at w
  cases q : m (frzE env) g with
  | bad => rw [q] at w; exact w.elim
  | exc _ _ _ _ => rw [q] at w; exact w.elim
  | ok ev e1 g1 =>
    rw [q] at w
    cases ev with
    | d x =>
      dsimp only at w
      by_cases hn : noLst x = true
      · rw [if_pos hn] at w
        show KE C σ F' H l (frzE env) Q (.d x) e1 g1
        intro v F1 H1 l1 R1 x1 r1 f1
        let F2 : Hp := fun a => if OwnAt σ env a then none else F1 a
        have own_H : ∀ a, OwnAt σ env a → ∃ o, H a = some o ∧ H1 a = some o ∧ (∀ vs, o ≠ .tup vs) ∧ (∀ q vs, o ≠ .frz q (.tup vs)) := fun a ha => by
          obtain ⟨i, y, h1, h2⟩ := ha
          obtain ⟨b, h3, h4, h5, h6, h7⟩ := R.own i y h1
          rw [h2] at h3
          cases h3
          obtain ⟨o, ho⟩ := h4.some
          refine ⟨o, ho, x1.hk a o ho (fun z => frzE_own z) h7, fun vs z => ?_, fun q vs z => ?_⟩
          · subst z
            cases y <;> first | (exact h4.elim) | (obtain ⟨_, z, _⟩ := h4; rw [ho] at z; cases z)
          · subst z
            cases y <;> first | (exact h4.elim) | (obtain ⟨_, z, _⟩ := h4; rw [ho] at z; cases z)
        have F2n : ∀ a, OwnAt σ env a → F2 a = none := fun a ha => if_pos ha
        have F2s : ∀ a, ¬ OwnAt σ env a → F2 a = F1 a := fun a ha => if_neg ha
        have S2 : Same F F2 := fun a o ho => by
          have na : ¬ OwnAt σ env a := fun z => by have := (R.ownF z).1; rw [ho] at this; cases this
          rw [F2s a na]
          exact x1.fs _ _ (sF _ _ ho)
        have F21 : ∀ a o, F2 a = some o → F1 a = some o := fun a o ho => by
          by_cases z : OwnAt σ env a
          · rw [F2n a z] at ho; cases ho
          · rw [F2s a z] at ho; exact ho
        have F21n : ∀ a, F2 a ≠ none → F1 a ≠ none := fun a ha z => by
          by_cases y : OwnAt σ env a
          · exact ha (F2n a y)
          · rw [F2s a y] at ha; exact ha z
        have RR : Rel C σ F2 H1 l1 env g1 := {
          sub := fun a o ho => R1.sub _ _ (F21 a o ho)
          len := R.len
          dat := fun i y hy => let ⟨v, h1, h2⟩ := R.dat i y hy; ⟨v, h1, Rep.up S2 _ _ h2⟩
          own := fun i y hy => by
            obtain ⟨a, h1, h2, h3, h4, h5⟩ := R.own i y hy
            have oa : OwnAt σ env a := ⟨i, y, hy, h1⟩
            refine ⟨a, h1, h2.up S2 fun o ho => x1.hk a o ho (fun z => frzE_own z) h5, F2n a oa, h4, fun z => ?_⟩
            rcases x1.ln a z with z | z
            · exact h5 z
            · obtain ⟨o, ho⟩ := h2.some
              rw [ho] at z; cases z
          inj := R.inj
          iscr := fun i ns hy => let ⟨a, h1, h2⟩ := R.iscr i ns hy; ⟨a, h1, S2.seq h2⟩
          isrc := fun i b hy => let ⟨d, c, h1, h2⟩ := R.isrc i b hy; ⟨d, c, x1.ls _ h1, h2⟩
          src := R1.src.less fun a ha => Classical.byContradiction fun z => F21n a z ha
          old := R1.old
          oldd := R1.oldd
          f0 := R.f0.trans S2
          fo := fun a ha => R1.fo a (F21n a ha)
          lo := R1.lo
          l0 := R1.l0 }
        have XX : Ext σ F H l env F2 H1 l1 env := {
          fs := S2
          hd := x1.hd
          hk := fun a o ho _ ns => x1.hk a o ho (fun z => frzE_own z) ns
          gr := fun a ha => by
            rcases x1.gr a (F21n a ha) with z | z | z
            · exact (gr a z).elim .inl fun z => .inr (.inr z)
            · exact .inr (.inl z)
            · exact (frzE_own z).elim
          ow := fun a ha => ha
          ls := x1.ls
          ln := x1.ln }
        refine w v F2 H1 l1 RR XX ?_ trivial
        refine rep_noLst (F1 := F1) (fun a o ho => ⟨fun vs hv => ?_, fun q vs hv => ?_⟩) x v hn r1
        · rw [F2s a fun z => ?_]
          · exact ho
          · obtain ⟨o', _, h2, h3, _⟩ := own_H a z
            have := R1.sub _ _ ho
            rw [h2] at this
            cases this
            exact h3 vs hv
        · rw [F2s a fun z => ?_]
          · exact ho
          · obtain ⟨o', _, h2, _, h3⟩ := own_H a z
            have := R1.sub _ _ ho
            rw [h2] at this
            cases this
            exact h3 q vs hv
      · rw [if_neg hn] at w; exact w.elim
    | _ => exact w.elim
end
end DL
/-! functional mirrors: plain functions over data, with a drawn source; no slots -/
namespace DL
open PySem L2
def S (α : Type) := G → Option (α × G)
namespace S
def pure {α : Type} (a : α) : S α := fun g => some (a, g)
def bind {α β : Type} (m : S α) (f : α → S β) : S β := fun g => match m g with
  | some (a, g') => f a g'
  | none => none
def fail {α : Type} : S α := fun _ => none
def opt {α : Type} : Option α → S α
  | some a => pure a
  | none => fail
end S
instance : Monad S where
  pure := S.pure
  bind := S.bind
theorem S.pure_def {α : Type} (a : α) (g : G) : (Pure.pure a : S α) g = some (a, g) := rfl
theorem S.bind_def {α β : Type} (m : S α) (f : α → S β) (g : G) : (m >>= f) g = match m g with
  | some (a, g') => f a g'
  | none => none := rfl
instance : LawfulMonad S := LawfulMonad.mk' S
  (id_map := fun m => by
    funext g
    show (match m g with | some (a, g') => some (a, g') | none => none) = m g
    cases m g with
    | none => rfl
    | some p => rfl)
  (pure_bind := fun a f => rfl)
  (bind_assoc := fun m f h => by
    funext g
    show (match (match m g with | some (a, g') => f a g' | none => none) with | some (a, g') => h a g' | none => none) = match m g with | some (a, g') => (match f a g' with | some (a, g') => h a g' | none => none) | none => none
    cases m g with
    | none => rfl
    | some p => rfl)
theorem S.inv {α β : Type} {m : S α} {f : α → S β} {g g' : G} {b : β} (h : (m >>= f) g = some (b, g')) : ∃ a g1, m g = some (a, g1) ∧ f a g1 = some (b, g') := by
  rw [S.bind_def] at h
  cases q : m g with
  | none => rw [q] at h; cases h
  | some p => rw [q] at h; exact ⟨p.1, p.2, rfl, h⟩
theorem S.inv0 {α : Type} {a b : α} {g g' : G} (h : (Pure.pure a : S α) g = some (b, g')) : a = b ∧ g = g' := by
  rw [S.pure_def] at h
  cases h
  exact ⟨rfl, rfl⟩
theorem S.invO {α : Type} {o : Option α} {b : α} {g g' : G} (h : S.opt o g = some (b, g')) : o = some b ∧ g = g' := by
  cases o with
  | none => cases h
  | some a => exact let ⟨e, q⟩ := S.inv0 h; ⟨by rw [e], q⟩
theorem S.invF {α : Type} {b : α} {g g' : G} (h : (S.fail : S α) g = some (b, g')) : False := by cases h
/-! what an expression's value is -/
def isObj : PyData → Bool
  | .list _ => true
  | .dict _ => true
  | _ => false
def VA (e : Env') (ev : EV) (x : PyData) : Prop := look e ev = some x ∧ (isObj x = false → ev = .d x)
def HA (_ : Env') (ev : EV) (x : PyData) : Prop := ev = .d x ∨ (ev = .fr x ∧ isObj x = true)
def HD (_ : Env') (ev : EV) (x : PyData) : Prop := ev = .d x
def FR (_ : Env') (ev : EV) (x : PyData) : Prop := (isObj x = true → ev = .fr x) ∧ (isObj x = false → ev = .d x)
def EQ {α : Type} (_ : Env') (a b : α) : Prop := a = b
theorem HD.ha {e : Env'} {ev : EV} {x : PyData} (h : HD e ev x) : HA e ev x := .inl h
theorem FR.ha {e : Env'} {ev : EV} {x : PyData} (h : FR e ev x) : HA e ev x := by
  cases q : isObj x with
  | true => exact .inr ⟨h.1 q, q⟩
  | false => exact .inl (h.2 q)
theorem FR.of {e : Env'} {x : PyData} (h : isObj x = true) : FR e (.fr x) x := ⟨fun _ => rfl, fun z => (by rw [h] at z; cases z)⟩
theorem FR.od {e : Env'} {x : PyData} (h : isObj x = false) : FR e (.d x) x := ⟨fun z => (by rw [h] at z; cases z), fun _ => rfl⟩
theorem HA.va {e : Env'} {ev : EV} {x : PyData} (h : HA e ev x) : VA e ev x := by
  rcases h with rfl | ⟨rfl, h⟩
  · exact ⟨rfl, fun _ => rfl⟩
  · exact ⟨rfl, fun z => by rw [h] at z; cases z⟩
/-- from one env to a later one: what was looked at stays -/
def Keep (e e' : Env') : Prop := ∀ j x, look e (.bo j) = some x → look e' (.bo j) = some x
theorem Keep.refl {e : Env'} : Keep e e := fun _ _ h => h
theorem Keep.trans {a b c : Env'} (h : Keep a b) (k : Keep b c) : Keep a c := fun _ _ x => k _ _ (h _ _ x)
theorem Keep.va {e e' : Env'} (k : Keep e e') {ev : EV} {x : PyData} (h : VA e ev x) : VA e' ev x := by
  refine ⟨?_, h.2⟩
  cases ev with
  | bo j => exact k j x h.1
  | _ => exact h.1
/-! slots -/
inductive SS where
  | d (x : PyData)
  | ow (x : PyData)
  | va (x : PyData)
  | src (b : Bool)
  | scr (ns : List Int)
  | jk
  | any
def SS.ok : SS → Slot → Prop
  | .d x, s => s = .d x
  | .ow x, s => (isObj x = true → s = .own x) ∧ (isObj x = false → s = .d x)
  | .va x, s => s = .d x ∨ (s = .own x ∧ isObj x = true)
  | .src b, s => s = .src b
  | .scr ns, s => s = .scr ns
  | .jk, s => ∀ x, s ≠ .own x
  | .any, _ => True
def Fits : List SS → Env' → Prop
  | [], [] => True
  | t :: ts, s :: ss => t.ok s ∧ Fits ts ss
  | _, _ => False
theorem Fits.len : ∀ {t : List SS} {e : Env'}, Fits t e → e.length = t.length
  | [], [], _ => rfl
  | t :: ts, s :: ss, h => by simp [Fits.len h.2]
  | [], _ :: _, h => h.elim
  | _ :: _, [], h => h.elim
theorem Fits.get : ∀ {t : List SS} {e : Env'} {i : Nat} {s : SS}, Fits t e → t[i]? = some s → ∃ x, e[i]? = some x ∧ s.ok x
  | [], [], i, s, _, h => by simp at h
  | t :: ts, x :: xs, 0, s, f, h => by simp at h; subst h; exact ⟨x, rfl, f.1⟩
  | t :: ts, x :: xs, i + 1, s, f, h => by simpa using Fits.get (i := i) f.2 (by simpa using h)
  | [], _ :: _, _, _, f, _ => f.elim
  | _ :: _, [], _, _, f, _ => f.elim
theorem Fits.set : ∀ {t : List SS} {e : Env'} {s : SS} {x : Slot} (i : Nat), Fits t e → s.ok x → Fits (t.set i s) (e.set i x)
  | [], [], _, _, _, _, _ => trivial
  | t :: ts, y :: ys, s, x, 0, f, h => ⟨h, f.2⟩
  | t :: ts, y :: ys, s, x, i + 1, f, h => ⟨f.1, Fits.set i f.2 h⟩
  | [], _ :: _, _, _, _, f, _ => f.elim
  | _ :: _, [], _, _, _, f, _ => f.elim
theorem Fits.setL {t : List SS} {e : Env'} {s : SS} {x : Slot} {i : Nat} (f : Fits t e) (h : t[i]? = some s) (hx : e[i]? = some x) (k : ∀ y, s.ok y) : True := trivial
/-- a weaker pattern of slots -/
def SS.le (a b : SS) : Prop := ∀ s, a.ok s → b.ok s
def LE : List SS → List SS → Prop
  | [], [] => True
  | a :: as, b :: bs => a.le b ∧ LE as bs
  | _, _ => False
theorem LE.fits : ∀ {a b : List SS} {e : Env'}, LE a b → Fits a e → Fits b e
  | [], [], [], _, _ => trivial
  | a :: as, b :: bs, s :: ss, h, f => ⟨h.1 s f.1, LE.fits h.2 f.2⟩
  | [], [], _ :: _, _, f => f.elim
  | _ :: _, _, [], _, f => f.elim
  | [], _ :: _, _, h, _ => h.elim
  | _ :: _, [], _, h, _ => h.elim
theorem SS.lr {a : SS} : a.le a := fun _ h => h
theorem SS.la {a : SS} : a.le .any := fun _ _ => trivial
theorem SS.ldv {x : PyData} : (SS.d x).le (.va x) := fun _ h => .inl h
theorem SS.lov {x : PyData} : (SS.ow x).le (.va x) := fun _ h => by
  cases q : isObj x with
  | true => exact .inr ⟨h.1 q, q⟩
  | false => exact .inl (h.2 q)
theorem SS.ldj {x : PyData} : (SS.d x).le .jk := fun s h y => by rw [show s = .d x from h]; nofun
theorem SS.lsj {b : Bool} : (SS.src b).le .jk := fun s h y => by rw [show s = .src b from h]; nofun
theorem SS.lcj {ns : List Int} : (SS.scr ns).le .jk := fun s h y => by rw [show s = .scr ns from h]; nofun
/-! ### the judgement: the mirror does what the function does -/
def T {α β : Type} (rel : Env' → α → β → Prop) (t : List SS) (m : M α) (s : S β) (t' : List SS) : Prop :=
  ∀ e g b g', Fits t e → s g = some (b, g') → ∃ a e', m e g = .ok a e' g' ∧ Fits t' e' ∧ Keep e e' ∧ rel e' a b
section
variable {t t1 t2 t3 t4 : List SS}
theorem T.mono {α β : Type} {r r' : Env' → α → β → Prop} {m : M α} {s : S β} (h : T r t m s t1) (k : ∀ e a b, r e a b → r' e a b) : T r' t m s t1 := fun e g b g' f q =>
  let ⟨a, e', h1, h2, h3, h4⟩ := h e g b g' f q
  ⟨a, e', h1, h2, h3, k _ _ _ h4⟩
theorem T.sub {α β : Type} {r : Env' → α → β → Prop} {m : M α} {s : S β} (h : T r t m s t1) (k : LE t1 t2) : T r t m s t2 := fun e g b g' f q =>
  let ⟨a, e', h1, h2, h3, h4⟩ := h e g b g' f q
  ⟨a, e', h1, k.fits h2, h3, h4⟩
theorem tHD {m : M EV} {s : S PyData} (h : T HD t m s t1) : T HA t m s t1 := h.mono fun _ _ _ => HD.ha
theorem tFR {m : M EV} {s : S PyData} (h : T FR t m s t1) : T HA t m s t1 := h.mono fun _ _ _ => FR.ha
theorem tVA {m : M EV} {s : S PyData} (h : T HA t m s t1) : T VA t m s t1 := h.mono fun _ _ _ => HA.va
/-- the bind of two -/
theorem T.bind {α β α' β' : Type} {r : Env' → α → β → Prop} {r' : Env' → α' → β' → Prop} {m : M α} {s : S β} {f : α → M α'} {k : β → S β'} (h : T r t m s t1)
    (hk : ∀ e a b g b' g', Fits t1 e → r e a b → k b g = some (b', g') → ∃ a' e', f a e g = .ok a' e' g' ∧ Fits t2 e' ∧ Keep e e' ∧ r' e' a' b') : T r' t (m.bind f) (s >>= k) t2 := by
  intro e g b' g' hf q
  obtain ⟨b, g1, q1, q2⟩ := S.inv q
  obtain ⟨a, e1, h1, h2, h3, h4⟩ := h e g b g1 hf q1
  obtain ⟨a', e2, h5, h6, h7, h8⟩ := hk e1 a b g1 b' g' h2 h4 q2
  exact ⟨a', e2, by rw [bind_eq h1]; exact h5, h6, h3.trans h7, h8⟩
theorem T.bind' {α β α' β' : Type} {r : Env' → α → β → Prop} {r' : Env' → α' → β' → Prop} {m : M α} {s : S β} {f : α → M α'} {k : β → S β'} (h : T r t m s t1)
    (hk : ∀ e a b g b' g', Fits t1 e → r e a b → k b g = some (b', g') → ∃ a', f a e g = .ok a' e g' ∧ r' e a' b') : T r' t (m.bind f) (s >>= k) t1 :=
  T.bind h fun e a b g b' g' hf hr q => let ⟨a', h1, h2⟩ := hk e a b g b' g' hf hr q; ⟨a', e, h1, hf, .refl, h2⟩
/-! names, constants -/
theorem te_k {x : PyData} : T HD t (mK x) (pure x) t := fun e g b g' f q => by
  obtain ⟨rfl, rfl⟩ := S.inv0 q
  exact ⟨_, e, rfl, f, .refl, rfl⟩
theorem te_p {x : PyData} (h : isObj x = true := by rfl) : T FR t (M.pure (.fr x)) (pure x) t := fun e g b g' f q => by
  obtain ⟨rfl, rfl⟩ := S.inv0 q
  exact ⟨_, e, rfl, f, .refl, FR.of h⟩
theorem vd {i : Nat} {x : PyData} (h : t[i]? = some (.d x)) : T HD t (mVar i) (pure x) t := fun e g b g' f q => by
  obtain ⟨rfl, rfl⟩ := S.inv0 q
  obtain ⟨s, h1, h2⟩ := f.get h
  cases (show s = .d x from h2)
  exact ⟨.d x, e, by simp only [mVar, h1], f, .refl, rfl⟩
theorem vdB {i : Nat} {x : PyData} (h : t[i]? = some (.d x)) : T HD t (mVarB i) (pure x) t := fun e g b g' f q => by
  obtain ⟨rfl, rfl⟩ := S.inv0 q
  obtain ⟨s, h1, h2⟩ := f.get h
  cases (show s = .d x from h2)
  exact ⟨.d x, e, by simp only [mVarB, h1], f, .refl, rfl⟩
theorem look_set {e : Env'} {i : Nat} {x : PyData} (h : e[i]? = some (.own x)) : Keep e (e.set i (.d x)) := by
  intro j y h1
  by_cases hj : i = j
  · subst hj
    have hl : i < e.length := by
      rcases Nat.lt_or_ge i e.length with z | z
      · exact z
      · rw [List.getElem?_eq_none z] at h; cases h
    simp only [look, h] at h1
    simp only [look, List.getElem?_set_self hl]
    exact h1
  · simp only [look, get_set_ne hj] at h1 ⊢
    exact h1
theorem vv {i : Nat} {x : PyData} (h : t[i]? = some (.va x)) : T HD t (mVar i) (pure x) (t.set i (.d x)) := fun e g b g' f q => by
  obtain ⟨rfl, rfl⟩ := S.inv0 q
  obtain ⟨s, h1, h2⟩ := f.get h
  rcases h2 with h2 | ⟨h2, h3⟩
  · subst h2
    refine ⟨.d x, e, by simp only [mVar, h1], ?_, .refl, rfl⟩
    have hs : e.set i (.d x) = e := by
      refine List.ext_getElem? fun j => ?_
      by_cases hj : i = j
      · subst hj
        have hl : i < e.length := by
          rcases Nat.lt_or_ge i e.length with z | z
          · exact z
          · rw [List.getElem?_eq_none z] at h1; cases h1
        rw [List.getElem?_set_self hl, h1]
      · rw [get_set_ne hj]
    have := f.set (s := .d x) (x := .d x) i rfl
    rwa [hs] at this
  · subst h2
    exact ⟨.d x, _, by simp only [mVar, h1], f.set i rfl, look_set h1, rfl⟩
theorem LE1 {i : Nat} {x : PyData} (h : t[i]? = some (.ow x)) {e : Env'} (f : Fits t e) : ∃ s, e[i]? = some s ∧ (s = .d x ∨ (s = .own x ∧ isObj x = true)) := by
  obtain ⟨s, h1, h2⟩ := f.get h
  exact ⟨s, h1, SS.lov s h2⟩
theorem vo {i : Nat} {x : PyData} (h : t[i]? = some (.ow x)) : T HD t (mVar i) (pure x) (t.set i (.d x)) := fun e g b g' f q => by
  obtain ⟨rfl, rfl⟩ := S.inv0 q
  obtain ⟨s, h1, h2⟩ := LE1 h f
  rcases h2 with h2 | ⟨h2, h3⟩
  · subst h2
    refine ⟨.d x, e, by simp only [mVar, h1], ?_, .refl, rfl⟩
    have hs : e.set i (.d x) = e := by
      refine List.ext_getElem? fun j => ?_
      by_cases hj : i = j
      · subst hj
        have hl : i < e.length := by
          rcases Nat.lt_or_ge i e.length with z | z
          · exact z
          · rw [List.getElem?_eq_none z] at h1; cases h1
        rw [List.getElem?_set_self hl, h1]
      · rw [get_set_ne hj]
    have := f.set (s := .d x) (x := .d x) i rfl
    rwa [hs] at this
  · subst h2
    exact ⟨.d x, _, by simp only [mVar, h1], f.set i rfl, look_set h1, rfl⟩
theorem voB {i : Nat} {x : PyData} (h : t[i]? = some (.ow x)) : T VA t (mVarB i) (pure x) t := fun e g b g' f q => by
  obtain ⟨rfl, rfl⟩ := S.inv0 q
  obtain ⟨s, h1, h2⟩ := LE1 h f
  rcases h2 with rfl | ⟨rfl, h3⟩
  · exact ⟨.d x, e, by simp only [mVarB, h1], f, .refl, rfl, fun _ => rfl⟩
  · exact ⟨.bo i, e, by simp only [mVarB, h1], f, .refl, by simp only [look, h1], fun z => by rw [h3] at z; cases z⟩
theorem vvB {i : Nat} {x : PyData} (h : t[i]? = some (.va x)) : T VA t (mVarB i) (pure x) t := fun e g b g' f q => by
  obtain ⟨rfl, rfl⟩ := S.inv0 q
  obtain ⟨s, h1, h2⟩ := f.get h
  rcases h2 with rfl | ⟨rfl, h3⟩
  · exact ⟨.d x, e, by simp only [mVarB, h1], f, .refl, rfl, fun _ => rfl⟩
  · exact ⟨.bo i, e, by simp only [mVarB, h1], f, .refl, by simp only [look, h1], fun z => by rw [h3] at z; cases z⟩
/-! operations -/
def RV.val : RV → PyData
  | .d x => x
  | .fr x => x
def RV.wf : RV → Prop
  | .d _ => True
  | .fr x => isObj x = true
theorem RV.ha {r : RV} (h : r.wf) {e : Env'} : HA e r.ev r.val := by
  cases r with
  | d x => exact .inl rfl
  | fr x => exact .inr ⟨rfl, h⟩
def sOp (o : Option RV) : S PyData := S.opt (o.map RV.val)
theorem sOp_inv {o : Option RV} {g g' : G} {x : PyData} (h : sOp o g = some (x, g')) : ∃ r, o = some r ∧ r.val = x ∧ g = g' := by
  obtain ⟨h1, h2⟩ := S.invO h
  cases o with
  | none => cases h1
  | some r => exact ⟨r, rfl, Option.some.inj h1, h2⟩
class Wf2 (g : PyData → PyData → Option RV) : Prop where
  wf : ∀ x y r, g x y = some r → r.wf
class Wf1 (g : PyData → Option RV) : Prop where
  wf : ∀ x r, g x = some r → r.wf
class WfL (g : List PyData → Option RV) : Prop where
  wf : ∀ x r, g x = some r → r.wf
class New2 (g : PyData → PyData → Option RV) : Prop where
  nw : ∀ x y r, g x y = some r → (isObj r.val = true → r = .fr r.val) ∧ (isObj r.val = false → r = .d r.val)
class New1 (g : PyData → Option RV) : Prop where
  nw : ∀ x r, g x = some r → (isObj r.val = true → r = .fr r.val) ∧ (isObj r.val = false → r = .d r.val)
class NewL (g : List PyData → Option RV) : Prop where
  nw : ∀ x r, g x = some r → (isObj r.val = true → r = .fr r.val) ∧ (isObj r.val = false → r = .d r.val)
theorem RV.fr_of {r : RV} (h : (isObj r.val = true → r = .fr r.val) ∧ (isObj r.val = false → r = .d r.val)) {e : Env'} : FR e r.ev r.val :=
  ⟨fun z => by have := h.1 z; rw [this]; rfl, fun z => by have := h.2 z; rw [this]; rfl⟩
def sBin (gop : PyData → PyData → Option RV) (a b : S PyData) : S PyData := a >>= fun x => b >>= fun y => sOp (gop x y)
def sUn (gop : PyData → Option RV) (a : S PyData) : S PyData := a >>= fun x => sOp (gop x)
theorem te_bin {gop : PyData → PyData → Option RV} [w : Wf2 gop] {ma mb : M EV} {a b : S PyData} (ha : T VA t ma a t1) (hb : T VA t1 mb b t2) : T HA t (mBin gop ma mb) (sBin gop a b) t2 := by
  intro e g z g' f q
  obtain ⟨x, g1, q1, q⟩ := S.inv q
  obtain ⟨y, g2, q2, q⟩ := S.inv q
  obtain ⟨r, q3, rfl, rfl⟩ := sOp_inv q
  obtain ⟨u, e1, h1, f1, k1, r1⟩ := ha e g x g1 f q1
  obtain ⟨v, e2, h2, f2, k2, r2⟩ := hb e1 g1 y g2 f1 q2
  refine ⟨r.ev, e2, ?_, f2, k1.trans k2, r.ha (w.wf _ _ _ q3)⟩
  unfold mBin
  rw [bind_eq h1, bind_eq h2]
  simp only [(k2.va r1).1, r2.1, q3, Option.map_some, M.opt, M.pure]
theorem te_un {gop : PyData → Option RV} [w : Wf1 gop] {ma : M EV} {a : S PyData} (ha : T VA t ma a t1) : T HA t (mUn gop ma) (sUn gop a) t1 := by
  refine T.bind' ha fun e u x g z g' f r q => ?_
  obtain ⟨r', q3, rfl, rfl⟩ := sOp_inv q
  refine ⟨r'.ev, ?_, r'.ha (w.wf _ _ q3)⟩
  simp only [r.1, q3, Option.map_some, M.opt, M.pure]
theorem te_binN {gop : PyData → PyData → Option RV} [w : New2 gop] {ma mb : M EV} {a b : S PyData} (ha : T VA t ma a t1) (hb : T VA t1 mb b t2) : T FR t (mBin gop ma mb) (sBin gop a b) t2 := by
  intro e g z g' f q
  obtain ⟨x, g1, q1, q⟩ := S.inv q
  obtain ⟨y, g2, q2, q⟩ := S.inv q
  obtain ⟨r, q3, rfl, rfl⟩ := sOp_inv q
  obtain ⟨u, e1, h1, f1, k1, r1⟩ := ha e g x g1 f q1
  obtain ⟨v, e2, h2, f2, k2, r2⟩ := hb e1 g1 y g2 f1 q2
  refine ⟨r.ev, e2, ?_, f2, k1.trans k2, RV.fr_of (w.nw _ _ _ q3)⟩
  unfold mBin
  rw [bind_eq h1, bind_eq h2]
  simp only [(k2.va r1).1, r2.1, q3, Option.map_some, M.opt, M.pure]
theorem te_unN {gop : PyData → Option RV} [w : New1 gop] {ma : M EV} {a : S PyData} (ha : T VA t ma a t1) : T FR t (mUn gop ma) (sUn gop a) t1 := by
  refine T.bind' ha fun e u x g z g' f r q => ?_
  obtain ⟨r', q3, rfl, rfl⟩ := sOp_inv q
  refine ⟨r'.ev, ?_, RV.fr_of (w.nw _ _ q3)⟩
  simp only [r.1, q3, Option.map_some, M.opt, M.pure]
/-! tests -/
def boolS : PyData → S Bool
  | .bool b => pure b
  | _ => S.fail
theorem boolS_inv {x : PyData} {g g' : G} {b : Bool} (h : boolS x g = some (b, g')) : x = .bool b ∧ g = g' := by
  cases x <;> first | (cases h; done) | skip
  exact let ⟨a, b⟩ := S.inv0 h; ⟨by rw [a], b⟩
def sBool (a : S PyData) : S Bool := a >>= boolS
def sAndT (a b : S Bool) : S Bool := a >>= fun x => if x then b else pure false
def sOrT (a b : S Bool) : S Bool := a >>= fun x => if x then pure true else b
def sNotT (a : S Bool) : S Bool := a >>= fun x => pure (!x)
def sAndV (a b : S PyData) : S PyData := sBool a >>= fun x => if x then b else pure (.bool false)
def sOrV (a b : S PyData) : S PyData := sBool a >>= fun x => if x then pure (.bool true) else b
def sNotV (a : S PyData) : S PyData := sBool a >>= fun x => pure (.bool (!x))
def sIf {α : Type} (c : S Bool) (a b : S α) : S α := c >>= fun x => if x then a else b
theorem tt_bool {m : M EV} {s : S PyData} (h : T VA t m s t1) : T EQ t (m.bind mBool) (sBool s) t1 := by
  refine T.bind' h fun e u x g z g' f r q => ?_
  obtain ⟨rfl, rfl⟩ := boolS_inv q
  cases r.2 rfl
  exact ⟨z, rfl, rfl⟩
theorem ite_true_eq {α : Sort _} {a b : α} : (if (true = true) then a else b) = a := rfl
theorem ite_false_eq {α : Sort _} {a b : α} : (if (false = true) then a else b) = b := rfl
theorem tt_and {ma mb : M Bool} {a b : S Bool} (ha : T EQ t ma a t1) (hb : T EQ t1 mb b t1) : T EQ t (mAndT ma mb) (sAndT a b) t1 := by
  refine T.bind ha fun e u x g z g' f r q => ?_
  cases r
  cases u with
  | true => exact hb e g z g' f q
  | false => exact let ⟨h1, h2⟩ := S.inv0 q; ⟨false, e, by rw [← h2]; rfl, f, .refl, h1⟩
theorem tt_or {ma mb : M Bool} {a b : S Bool} (ha : T EQ t ma a t1) (hb : T EQ t1 mb b t1) : T EQ t (mOrT ma mb) (sOrT a b) t1 := by
  refine T.bind ha fun e u x g z g' f r q => ?_
  cases r
  cases u with
  | false => exact hb e g z g' f q
  | true => exact let ⟨h1, h2⟩ := S.inv0 q; ⟨true, e, by rw [← h2]; rfl, f, .refl, h1⟩
theorem tt_not {ma : M Bool} {a : S Bool} (ha : T EQ t ma a t1) : T EQ t (mNotT ma) (sNotT a) t1 := by
  refine T.bind' ha fun e u x g z g' f r q => ?_
  cases r
  exact let ⟨h1, h2⟩ := S.inv0 q; ⟨!u, by rw [← h2]; rfl, h1⟩
theorem te_andV {ma mb : M EV} {a b : S PyData} (ha : T VA t ma a t1) (hb : T HA t1 mb b t1) : T HA t (mAndV ma mb) (sAndV a b) t1 := by
  intro e g z g' f q
  obtain ⟨x, g1, q1, q⟩ := S.inv q
  obtain ⟨x', g2, q1', q2⟩ := S.inv (m := a) (f := boolS) q1
  obtain ⟨rfl, rfl⟩ := boolS_inv q2
  obtain ⟨u, e1, h1, f1, k1, r1⟩ := ha e g _ _ f q1'
  cases r1.2 rfl
  cases x with
  | true =>
    obtain ⟨v, e2, h2, f2, k2, r2⟩ := hb e1 _ z g' f1 q
    exact ⟨v, e2, by unfold mAndV; rw [bind_eq h1]; exact h2, f2, k1.trans k2, r2⟩
  | false =>
    obtain ⟨rfl, rfl⟩ := S.inv0 q
    exact ⟨_, e1, by unfold mAndV; rw [bind_eq h1]; rfl, f1, k1, .inl rfl⟩
theorem te_orV {ma mb : M EV} {a b : S PyData} (ha : T VA t ma a t1) (hb : T HA t1 mb b t1) : T HA t (mOrV ma mb) (sOrV a b) t1 := by
  intro e g z g' f q
  obtain ⟨x, g1, q1, q⟩ := S.inv q
  obtain ⟨x', g2, q1', q2⟩ := S.inv (m := a) (f := boolS) q1
  obtain ⟨rfl, rfl⟩ := boolS_inv q2
  obtain ⟨u, e1, h1, f1, k1, r1⟩ := ha e g _ _ f q1'
  cases r1.2 rfl
  cases x with
  | false =>
    obtain ⟨v, e2, h2, f2, k2, r2⟩ := hb e1 _ z g' f1 q
    exact ⟨v, e2, by unfold mOrV; rw [bind_eq h1]; exact h2, f2, k1.trans k2, r2⟩
  | true =>
    obtain ⟨rfl, rfl⟩ := S.inv0 q
    exact ⟨_, e1, by unfold mOrV; rw [bind_eq h1]; rfl, f1, k1, .inl rfl⟩
theorem te_notV {ma : M EV} {a : S PyData} (ha : T VA t ma a t1) : T HD t (mNotV ma) (sNotV a) t1 := by
  intro e g z g' f q
  obtain ⟨x, g1, q1, q⟩ := S.inv q
  obtain ⟨x', g2, q1', q2⟩ := S.inv (m := a) (f := boolS) q1
  obtain ⟨rfl, rfl⟩ := boolS_inv q2
  obtain ⟨u, e1, h1, f1, k1, r1⟩ := ha e g _ _ f q1'
  cases r1.2 rfl
  obtain ⟨rfl, rfl⟩ := S.inv0 q
  exact ⟨_, e1, by unfold mNotV; rw [bind_eq h1]; rfl, f1, k1, rfl⟩
theorem te_if {r : Env' → EV → PyData → Prop} {mt : M Bool} {ma mb : M EV} {c : S Bool} {a b : S PyData} (hc : T EQ t mt c t1) (ha : T r t1 ma a t2) (hb : T r t1 mb b t2) : T r t (mIf mt ma mb) (sIf c a b) t2 := by
  refine T.bind hc fun e u x g z g' f hr q => ?_
  cases hr
  cases u with
  | true => exact ha e g z g' f q
  | false => exact hb e g z g' f q
/-! handed on, displays -/
theorem te_arg {m : M EV} {s : S PyData} (h : T HA t m s t1) : T HD t (mArg m) s t1 := by
  intro e g z g' f q
  obtain ⟨u, e1, h1, f1, k1, r1⟩ := h e g z g' f q
  refine ⟨.d z, e1, ?_, f1, k1, rfl⟩
  unfold mArg
  rw [bind_eq h1]
  rcases r1 with rfl | ⟨rfl, _⟩ <;> rfl
theorem td_frz {m : M EV} {s : S PyData} (h : T HA t m s t1) : T EQ t (m.bind mFrz) s t1 := by
  intro e g z g' f q
  obtain ⟨u, e1, h1, f1, k1, r1⟩ := h e g z g' f q
  refine ⟨z, e1, ?_, f1, k1, rfl⟩
  rw [bind_eq h1]
  rcases r1 with rfl | ⟨rfl, _⟩ <;> rfl
def sNil : S (List PyData) := pure []
def sCons (a : S PyData) (r : S (List PyData)) : S (List PyData) := a >>= fun x => r >>= fun xs => pure (x :: xs)
def DS' (_ : Env') (evs : List EV) (ds : List PyData) : Prop := evs = ds.map .d
def VS (e : Env') : List EV → List PyData → Prop
  | [], [] => True
  | ev :: evs, x :: xs => VA e ev x ∧ VS e evs xs
  | _, _ => False
theorem VS.look : ∀ {e : Env'} {evs : List EV} {xs : List PyData}, VS e evs xs → lookAll e evs = some xs
  | _, [], [], _ => rfl
  | e, ev :: evs, x :: xs, h => by simp [lookAll, h.1.1, VS.look h.2]
  | _, [], _ :: _, h => h.elim
  | _, _ :: _, [], h => h.elim
theorem ta_nil : T DS' t mNil sNil t := fun e g b g' f q => by
  obtain ⟨rfl, rfl⟩ := S.inv0 q
  exact ⟨[], e, rfl, f, .refl, rfl⟩
theorem tb_nil : T VS t mNil sNil t := fun e g b g' f q => by
  obtain ⟨rfl, rfl⟩ := S.inv0 q
  exact ⟨[], e, rfl, f, .refl, trivial⟩
theorem ta_cons {ma : M EV} {mr : M (List EV)} {a : S PyData} {r : S (List PyData)} (ha : T HD t ma a t1) (hr : T DS' t1 mr r t2) : T DS' t (mCons ma mr) (sCons a r) t2 := by
  intro e g z g' f q
  obtain ⟨x, g1, q1, q⟩ := S.inv q
  obtain ⟨y, g2, q2, q⟩ := S.inv q
  obtain ⟨rfl, rfl⟩ := S.inv0 q
  obtain ⟨u, e1, h1, f1, k1, r1⟩ := ha e g x g1 f q1
  obtain ⟨v, e2, h2, f2, k2, r2⟩ := hr e1 g1 y g2 f1 q2
  cases r1
  cases r2
  exact ⟨_, e2, by unfold mCons; rw [bind_eq h1, bind_eq h2]; rfl, f2, k1.trans k2, rfl⟩
theorem tb_cons {ma : M EV} {mr : M (List EV)} {a : S PyData} {r : S (List PyData)} (ha : T VA t ma a t1) (hr : T VS t1 mr r t2) : T VS t (mCons ma mr) (sCons a r) t2 := by
  intro e g z g' f q
  obtain ⟨x, g1, q1, q⟩ := S.inv q
  obtain ⟨y, g2, q2, q⟩ := S.inv q
  obtain ⟨rfl, rfl⟩ := S.inv0 q
  obtain ⟨u, e1, h1, f1, k1, r1⟩ := ha e g x g1 f q1
  obtain ⟨v, e2, h2, f2, k2, r2⟩ := hr e1 g1 y g2 f1 q2
  exact ⟨u :: v, e2, by unfold mCons; rw [bind_eq h1, bind_eq h2]; rfl, f2, k1.trans k2, k2.va r1, r2⟩
def starOf : PyData → Option (List PyData)
  | .list ds => some ds
  | .tuple ds => some ds
  | _ => none
def sStar (a : S PyData) (r : S (List PyData)) : S (List PyData) := a >>= fun x => S.opt (starOf x) >>= fun ds => r >>= fun xs => pure (ds ++ xs)
theorem ta_star {ma : M EV} {mr : M (List EV)} {a : S PyData} {r : S (List PyData)} (ha : T VA t ma a t1) (hr : T DS' t1 mr r t2) : T DS' t (mStar ma mr) (sStar a r) t2 := by
  intro e g z g' f q
  obtain ⟨x, g1, q1, q⟩ := S.inv q
  obtain ⟨ds, g1', q3, q⟩ := S.inv q
  obtain ⟨q3', rfl⟩ := S.invO q3
  obtain ⟨y, g2, q2, q⟩ := S.inv q
  obtain ⟨rfl, rfl⟩ := S.inv0 q
  obtain ⟨u, e1, h1, f1, k1, r1⟩ := ha e g x _ f q1
  obtain ⟨v, e2, h2, f2, k2, r2⟩ := hr e1 _ y g2 f1 q2
  cases r2
  refine ⟨_, e2, ?_, f2, k1.trans k2, rfl⟩
  unfold mStar
  rw [bind_eq h1]
  cases x <;> first | (cases q3'; done) | skip
  all_goals
    cases q3'
    simp only [r1.1]
    rw [bind_eq h2]
    simp [M.pure]
theorem dataOf_map : ∀ ds : List PyData, dataOf (ds.map .d) = some ds
  | [] => rfl
  | d :: ds => by simp [dataOf, dataOf_map ds]
def sSz {α : Type} (f : List PyData → α) (ds : List PyData) : S α := if ds.length ≤ sizeLine then pure (f ds) else S.fail
theorem sSz_inv {α : Type} {f : List PyData → α} {ds : List PyData} {g g' : G} {b : α} (h : sSz f ds g = some (b, g')) : ds.length ≤ sizeLine ∧ b = f ds ∧ g = g' := by
  unfold sSz at h
  by_cases c : ds.length ≤ sizeLine
  · rw [if_pos c] at h
    obtain ⟨h1, h2⟩ := S.inv0 h
    exact ⟨c, h1.symm, h2⟩
  · rw [if_neg c] at h; cases h
def sTup (s : S (List PyData)) : S PyData := s >>= sSz .tuple
def sLst (s : S (List PyData)) : S PyData := s >>= sSz .list
theorem te_tup {m : M (List EV)} {s : S (List PyData)} (h : T DS' t m s t1) : T HD t (mDisp (fun ds => .d (.tuple ds)) m) (sTup s) t1 := by
  refine T.bind' h fun e u x g z g' f r q => ?_
  obtain ⟨c, rfl, rfl⟩ := sSz_inv q
  cases r
  exact ⟨.d (.tuple x), by simp [dataOf_map, mSized, szd, c, M.opt, M.pure, RV.ev], rfl⟩
theorem te_lst {m : M (List EV)} {s : S (List PyData)} (h : T DS' t m s t1) : T FR t (mDisp (fun ds => .fr (.list ds)) m) (sLst s) t1 := by
  refine T.bind' h fun e u x g z g' f r q => ?_
  obtain ⟨c, rfl, rfl⟩ := sSz_inv q
  cases r
  exact ⟨.fr (.list x), by simp [dataOf_map, mSized, szd, c, M.opt, M.pure, RV.ev], FR.of rfl⟩
/-! builtins -/
def sCallB (gop : List PyData → Option RV) (a : S (List PyData)) : S PyData := a >>= fun xs => sOp (gop xs)
theorem te_callB {gop : List PyData → Option RV} [w : WfL gop] {m : M (List EV)} {s : S (List PyData)} (h : T VS t m s t1) : T HA t (mCallB gop m) (sCallB gop s) t1 := by
  refine T.bind' h fun e u x g z g' f r q => ?_
  obtain ⟨r', q3, rfl, rfl⟩ := sOp_inv q
  refine ⟨r'.ev, ?_, r'.ha (w.wf _ _ q3)⟩
  simp only [r.look, q3, Option.map_some, M.opt, M.pure]
theorem te_callBN {gop : List PyData → Option RV} [w : NewL gop] {m : M (List EV)} {s : S (List PyData)} (h : T VS t m s t1) : T FR t (mCallB gop m) (sCallB gop s) t1 := by
  refine T.bind' h fun e u x g z g' f r q => ?_
  obtain ⟨r', q3, rfl, rfl⟩ := sOp_inv q
  refine ⟨r'.ev, ?_, RV.fr_of (w.nw _ _ q3)⟩
  simp only [r.look, q3, Option.map_some, M.opt, M.pure]
def sIsi (T : String) (a : S PyData) : S PyData := a >>= fun x => pure (.bool (isiD T x))
theorem te_isi {z : String} {m : M EV} {s : S PyData} (h : T VA t m s t1) : T HD t (mIsi z m) (sIsi z s) t1 := by
  refine T.bind' h fun e u x g z g' f r q => ?_
  obtain ⟨rfl, rfl⟩ := S.inv0 q
  exact ⟨_, by simp only [r.1], rfl⟩
def sRepr (a : S PyData) : S PyData := a >>= fun x => sOp (pyRepr1 x)
theorem te_repr {m : M PyData} {s : S PyData} (h : T EQ t m s t1) : T HD t (mRepr m) (sRepr s) t1 := by
  refine T.bind' h fun e u x g z g' f r q => ?_
  cases r
  obtain ⟨r', q3, rfl, rfl⟩ := sOp_inv q
  refine ⟨r'.ev, by simp only [q3, Option.map_some, M.opt, M.pure], ?_⟩
  unfold pyRepr1 at q3
  split at q3
  · cases q3; rfl
  · cases q3
def partS : PyData → S (Option Int)
  | .int i => pure (some i)
  | _ => S.fail
theorem to_none : T EQ t (M.pure none : M (Option Int)) (pure none) t := fun e g b g' f q => by
  obtain ⟨rfl, rfl⟩ := S.inv0 q
  exact ⟨none, e, rfl, f, .refl, rfl⟩
theorem to_some {m : M PyData} {s : S PyData} (h : T EQ t m s t1) : T EQ t (m.bind mPart) (s >>= partS) t1 := by
  refine T.bind' h fun e u x g z g' f r q => ?_
  cases r
  cases u <;> first | (cases q; done) | skip
  obtain ⟨rfl, rfl⟩ := S.inv0 q
  exact ⟨_, rfl, rfl⟩
def sSl (a : S PyData) (lo hi : S (Option Int)) : S PyData := a >>= fun x => lo >>= fun i => hi >>= fun j => sOp (pySl x i j)
theorem sl_nw {x : PyData} {i j : Option Int} {r : RV} (h : pySl x i j = some r) : (isObj r.val = true → r = .fr r.val) ∧ (isObj r.val = false → r = .d r.val) := by
  unfold pySl at h
  split at h
  · cases h; exact ⟨fun _ => rfl, fun z => (by cases z)⟩
  · cases h; exact ⟨fun z => (by cases z), fun _ => rfl⟩
  · split at h
    · cases h; exact ⟨fun z => (by cases z), fun _ => rfl⟩
    · cases h
  · cases h
theorem sl_wf {x : PyData} {i j : Option Int} {r : RV} (h : pySl x i j = some r) : r.wf := by
  unfold pySl at h
  split at h
  · cases h; rfl
  · cases h; trivial
  · split at h
    · cases h; trivial
    · cases h
  · cases h
theorem te_slice {ma : M EV} {ml mh : M (Option Int)} {a : S PyData} {lo hi : S (Option Int)} (ha : T VA t ma a t1) (hl : T EQ t1 ml lo t2) (hh : T EQ t2 mh hi t3) : T FR t (mSl ma ml mh) (sSl a lo hi) t3 := by
  intro e g z g' f q
  obtain ⟨x, g1, q1, q⟩ := S.inv q
  obtain ⟨i, g2, q2, q⟩ := S.inv q
  obtain ⟨j, g3, q3, q⟩ := S.inv q
  obtain ⟨r, q4, rfl, rfl⟩ := sOp_inv q
  obtain ⟨u, e1, h1, f1, k1, r1⟩ := ha e g x g1 f q1
  obtain ⟨v, e2, h2, f2, k2, r2⟩ := hl e1 g1 i g2 f1 q2
  obtain ⟨w, e3, h3, f3, k3, r3⟩ := hh e2 g2 j _ f2 q3
  cases r2
  cases r3
  refine ⟨r.ev, e3, ?_, f3, k1.trans (k2.trans k3), RV.fr_of (sl_nw q4)⟩
  unfold mSl
  rw [bind_eq h1, bind_eq h2, bind_eq h3]
  simp only [((k2.trans k3).va r1).1, q4, Option.map_some, M.opt, M.pure]
def fzS : SS → SS
  | .ow x => .d x
  | .va x => .d x
  | .any => .jk
  | s => s
theorem fzS_ok {s : SS} {x : Slot} (h : s.ok x) : (fzS s).ok (fz x) := by
  cases s with
  | d y => cases (show x = .d y from h); rfl
  | ow y =>
    rcases SS.lov x h with rfl | ⟨rfl, _⟩ <;> rfl
  | va y =>
    rcases h with rfl | ⟨rfl, _⟩ <;> rfl
  | src b => cases (show x = .src b from h); rfl
  | scr ns => cases (show x = .scr ns from h); rfl
  | jk => intro y; cases x <;> simp [fz]
  | any => intro y; cases x <;> simp [fz]
theorem Fits.frz : ∀ {t : List SS} {e : Env'}, Fits t e → Fits (t.map fzS) (frzE e)
  | [], [], _ => trivial
  | t :: ts, s :: ss, h => ⟨fzS_ok h.1, Fits.frz h.2⟩
  | [], _ :: _, h => h.elim
  | _ :: _, [], h => h.elim
def noLstS (x : PyData) : S PyData := if noLst x then pure x else S.fail
theorem te_thaw {m : M EV} {s : S PyData} (h : T HA (t.map fzS) m s t1) : T HD t (mThaw m) (s >>= noLstS) t := fun e g x g' f q => by
  obtain ⟨y, g1, q1, q2⟩ := S.inv q
  unfold noLstS at q2
  by_cases c : noLst y = true
  · rw [if_pos c] at q2
    obtain ⟨rfl, rfl⟩ := S.inv0 q2
    obtain ⟨ev, e1, h1, _, _, h2⟩ := h (frzE e) g y _ f.frz q1
    have he : ev = .d y := by
      rcases h2 with h2 | ⟨_, h2⟩
      · exact h2
      · cases y <;> first | (cases h2; done) | (cases c; done)
    subst he
    refine ⟨.d y, e, ?_, f, .refl, rfl⟩
    unfold mThaw
    rw [h1]
    simp only [c, if_true]
  · rw [if_neg c] at q2; cases q2
/-! ranges -/
def intS : PyData → S Int
  | .int i => pure i
  | _ => S.fail
theorem intS_inv {x : PyData} {g g' : G} {b : Int} (h : intS x g = some (b, g')) : x = .int b ∧ g = g' := by
  cases x <;> first | (cases h; done) | skip
  exact let ⟨a, b⟩ := S.inv0 h; ⟨by rw [a], b⟩
def sRgL (f : List PyData → PyData) (a : S (Int × Int)) : S PyData := a >>= fun p => S.opt (rgTo p.1 p.2) >>= fun ds => pure (f ds)
def sRg1 (a : S PyData) : S (Int × Int) := a >>= fun x => intS x >>= fun n => pure (0, n)
def sRg2 (a b : S PyData) : S (Int × Int) := a >>= fun x => b >>= fun y => intS x >>= fun i => intS y >>= fun j => pure (i, j)
theorem tr_1 {ma : M PyData} {a : S PyData} (h : T EQ t ma a t1) : T EQ t (mRg1 ma) (sRg1 a) t1 := by
  refine T.bind' h fun e u x g z g' f r q => ?_
  cases r
  obtain ⟨i, g1, q1, q⟩ := S.inv q
  obtain ⟨rfl, rfl⟩ := intS_inv q1
  obtain ⟨rfl, rfl⟩ := S.inv0 q
  exact ⟨_, rfl, rfl⟩
theorem tr_2 {ma mb : M PyData} {a b : S PyData} (ha : T EQ t ma a t1) (hb : T EQ t1 mb b t2) : T EQ t (mRg2 ma mb) (sRg2 a b) t2 := by
  refine T.bind ha fun e u x g z g' f r q => ?_
  cases r
  obtain ⟨y, g1, q1, q⟩ := S.inv q
  obtain ⟨v, e2, h2, f2, k2, r2⟩ := hb e g y g1 f q1
  cases r2
  obtain ⟨i, g2, q1, q⟩ := S.inv q
  obtain ⟨rfl, rfl⟩ := intS_inv q1
  obtain ⟨j, g3, q1, q⟩ := S.inv q
  obtain ⟨rfl, rfl⟩ := intS_inv q1
  obtain ⟨rfl, rfl⟩ := S.inv0 q
  exact ⟨_, e2, by rw [bind_eq h2]; rfl, f2, k2, rfl⟩
theorem te_rgL {m : M (Int × Int)} {s : S (Int × Int)} (h : T EQ t m s t1) : T FR t (mRgL (fun ds => .fr (.list ds)) m) (sRgL .list s) t1 := by
  refine T.bind' h fun e u x g z g' f r q => ?_
  cases r
  obtain ⟨i, j⟩ := u
  obtain ⟨ds, g1, q0, q⟩ := S.inv q
  obtain ⟨q1, rfl⟩ := S.invO q0
  obtain ⟨rfl, rfl⟩ := S.inv0 q
  exact ⟨_, by rw [rgGo_eq, show rgTo i j = some ds from q1]; rfl, FR.of rfl⟩
theorem te_rgT {m : M (Int × Int)} {s : S (Int × Int)} (h : T EQ t m s t1) : T HD t (mRgL (fun ds => .d (.tuple ds)) m) (sRgL .tuple s) t1 := by
  refine T.bind' h fun e u x g z g' f r q => ?_
  cases r
  obtain ⟨i, j⟩ := u
  obtain ⟨ds, g1, q0, q⟩ := S.inv q
  obtain ⟨q1, rfl⟩ := S.invO q0
  obtain ⟨rfl, rfl⟩ := S.inv0 q
  exact ⟨_, by rw [rgGo_eq, show rgTo i j = some ds from q1]; rfl, rfl⟩
/-! walks -/
def itemsS : PyData → S (List PyData)
  | .list ds => pure ds
  | .tuple ds => pure ds
  | .str z => pure (signs z)
  | _ => S.fail
def sItems (a : S PyData) : S (List PyData) := a >>= itemsS
theorem ti_items {m : M PyData} {s : S PyData} (h : T EQ t m s t1) : T EQ t (m.bind mItems) (sItems s) t1 := by
  refine T.bind' h fun e u x g z g' f r q => ?_
  cases r
  cases u <;> first | (cases q; done) | skip
  all_goals
    obtain ⟨rfl, rfl⟩ := S.inv0 q
    exact ⟨_, rfl, rfl⟩
def sRange1 (a : S PyData) : S (List PyData) := a >>= fun x => intS x >>= fun j => S.opt (rngTo 0 j)
def sRange2 (a b : S PyData) : S (List PyData) := a >>= fun x => b >>= fun y => intS x >>= fun i => intS y >>= fun j => S.opt (rngTo i j)
theorem VA.int {e : Env'} {ev : EV} {i : Int} (h : VA e ev (.int i)) : ev = .d (.int i) := h.2 rfl
theorem ti_range1 {ma : M EV} {a : S PyData} (h : T VA t ma a t1) : T EQ t (M.bind (mCons ma mNil) mRange1) (sRange1 a) t1 := by
  intro e g z g' f q
  obtain ⟨x, g1, q1, q⟩ := S.inv q
  obtain ⟨u, e1, h1, f1, k1, r1⟩ := h e g x _ f q1
  obtain ⟨j, g2, q2, q⟩ := S.inv q
  obtain ⟨rfl, rfl⟩ := intS_inv q2
  obtain ⟨q9, rfl⟩ := S.invO q
  cases r1.int
  refine ⟨z, e1, ?_, f1, k1, rfl⟩
  rw [bind_eq (show mCons ma mNil e g = _ by unfold mCons; rw [bind_eq h1]; rfl)]
  simp [mRange1, evInts, M.opt, M.bind, M.pure, rng1, q9]
theorem ti_range2 {ma mb : M EV} {a b : S PyData} (ha : T VA t ma a t1) (hb : T VA t1 mb b t2) : T EQ t (M.bind (mCons ma (mCons mb mNil)) mRange2) (sRange2 a b) t2 := by
  intro e g z g' f q
  obtain ⟨x, g1, q1, q⟩ := S.inv q
  obtain ⟨u, e1, h1, f1, k1, r1⟩ := ha e g x _ f q1
  obtain ⟨y, g1', q1', q⟩ := S.inv q
  obtain ⟨v, e2, h2, f2, k2, r2⟩ := hb e1 _ y _ f1 q1'
  obtain ⟨i, g2, q2, q⟩ := S.inv q
  obtain ⟨rfl, rfl⟩ := intS_inv q2
  obtain ⟨j, g2, q2, q⟩ := S.inv q
  obtain ⟨rfl, rfl⟩ := intS_inv q2
  obtain ⟨q9, rfl⟩ := S.invO q
  cases r1.int
  cases r2.int
  refine ⟨z, e2, ?_, f2, k1.trans k2, rfl⟩
  rw [bind_eq (show mCons ma (mCons mb mNil) e g = .ok [.d (.int i), .d (.int j)] e2 g1' by unfold mCons; rw [bind_eq h1]; rw [bind_eq (show M.bind mb _ e1 _ = _ from by rw [bind_eq h2]; rfl)]; rfl)]
  simp [mRange2, evInts, M.opt, M.bind, M.pure, rng2, q9]
def seqOf : PyData → Option (List PyData)
  | .list ds => some ds
  | .tuple ds => some ds
  | _ => none
def sEnum (a : S PyData) : S (List PyData) := a >>= fun x => S.opt (seqOf x) >>= fun ds => pure (numbered 0 ds)
theorem ti_enum {ma : M EV} {a : S PyData} (h : T HD t ma a t1) : T EQ t (M.bind (mCons ma mNil) mEnum) (sEnum a) t1 := by
  intro e g z g' f q
  obtain ⟨x, g1, q1, q⟩ := S.inv q
  obtain ⟨u, e1, h1, f1, k1, r1⟩ := h e g x _ f q1
  obtain ⟨ds, g2, q2, q⟩ := S.inv q
  obtain ⟨q2', rfl⟩ := S.invO q2
  obtain ⟨rfl, rfl⟩ := S.inv0 q
  cases r1
  refine ⟨_, e1, ?_, f1, k1, rfl⟩
  rw [bind_eq (show mCons ma mNil e g = .ok [.d x] e1 g1 by unfold mCons; rw [bind_eq h1]; rfl)]
  cases x <;> first | (cases q2'; done) | (cases q2'; rfl)
def zipOf : PyData → PyData → Option (List PyData)
  | .list ds, .list es => some (zipped ds es)
  | .tuple ds, .tuple es => some (zipped ds es)
  | _, _ => none
def sZip (a b : S PyData) : S (List PyData) := a >>= fun x => b >>= fun y => S.opt (zipOf x y)
theorem ti_zip {ma mb : M EV} {a b : S PyData} (ha : T HD t ma a t1) (hb : T HD t1 mb b t2) : T EQ t (M.bind (mCons ma (mCons mb mNil)) mZip) (sZip a b) t2 := by
  intro e g z g' f q
  obtain ⟨x, g1, q1, q⟩ := S.inv q
  obtain ⟨u, e1, h1, f1, k1, r1⟩ := ha e g x _ f q1
  obtain ⟨y, g2, q2, q⟩ := S.inv q
  obtain ⟨v, e2, h2, f2, k2, r2⟩ := hb e1 _ y _ f1 q2
  obtain ⟨q9, rfl⟩ := S.invO q
  cases r1
  cases r2
  refine ⟨z, e2, ?_, f2, k1.trans k2, rfl⟩
  rw [bind_eq (show mCons ma (mCons mb mNil) e g = .ok [.d x, .d y] e2 g2 by unfold mCons; rw [bind_eq h1]; rw [bind_eq (show M.bind mb _ e1 _ = _ from by rw [bind_eq h2]; rfl)]; rfl)]
  cases x <;> cases y <;> first | (cases q9; done) | (cases q9; rfl)
def sIdx (a b : S PyData) : S PyData := a >>= fun x => b >>= fun y => sOp (pyIndex x y)
theorem te_index {ma mb : M EV} {a b : S PyData} (ha : T VA t ma a t1) (hb : T VA t1 mb b t2) : T HA t (mIdx ma mb) (sIdx a b) t2 := by
  intro e g z g' f q
  obtain ⟨x, g1, q1, q⟩ := S.inv q
  obtain ⟨y, g2, q2, q⟩ := S.inv q
  obtain ⟨r, q3, rfl, rfl⟩ := sOp_inv q
  obtain ⟨u, e1, h1, f1, k1, r1⟩ := ha e g x g1 f q1
  obtain ⟨v, e2, h2, f2, k2, r2⟩ := hb e1 g1 y g2 f1 q2
  have hx : ∃ ds, x = .list ds := by
    cases x <;> first | (cases q3; done) | exact ⟨_, rfl⟩
  obtain ⟨ds, rfl⟩ := hx
  refine ⟨r.ev, e2, ?_, f2, k1.trans k2, r.ha ?_⟩
  · unfold mIdx
    rw [bind_eq h1]
    simp only [r1.1]
    rw [bind_eq h2]
    simp only [(k2.va r1).1, r2.1, q3, Option.map_some, M.opt, M.pure]
  · unfold pyIndex at q3
    dsimp only at q3
    split at q3
    · cases q : indexD ds y with
      | none => rw [q] at q3; cases q3
      | some j => rw [q] at q3; cases q3; trivial
    · cases q3
def cmpB (o : Option RV) : S Bool := match o with
  | some (.d (.bool k)) => pure k
  | _ => S.fail
theorem cmpB_inv {o : Option RV} {g g' : G} {b : Bool} (h : cmpB o g = some (b, g')) : o = some (.d (.bool b)) ∧ g = g' := by
  unfold cmpB at h
  split at h
  · obtain ⟨rfl, rfl⟩ := S.inv0 h; exact ⟨rfl, rfl⟩
  · cases h
def sChain (g1 g2 : PyData → PyData → Option RV) (a b c : S PyData) : S PyData := a >>= fun x => b >>= fun y => cmpB (g1 x y) >>= fun k => if k then c >>= fun z => sOp (g2 y z) else pure (.bool false)
theorem te_chain {g1 g2 : PyData → PyData → Option RV} [w : Wf2 g2] {ma mb mc : M EV} {a b c : S PyData} (ha : T VA t ma a t1) (hb : T VA t1 mb b t2) (hc : T VA t2 mc c t2) : T HA t (mChain g1 g2 ma mb mc) (sChain g1 g2 a b c) t2 := by
  intro e g z g' f q
  obtain ⟨x, g1, q1, q⟩ := S.inv q
  obtain ⟨y, g2, q2, q⟩ := S.inv q
  obtain ⟨k, g3, q3, q⟩ := S.inv q
  obtain ⟨q3', rfl⟩ := cmpB_inv q3
  obtain ⟨u, e1, h1, f1, k1, r1⟩ := ha e g x g1 f q1
  obtain ⟨v, e2, h2, f2, k2, r2⟩ := hb e1 g1 y _ f1 q2
  cases k with
  | false =>
    obtain ⟨rfl, rfl⟩ := S.inv0 q
    refine ⟨_, e2, ?_, f2, k1.trans k2, .inl rfl⟩
    unfold mChain
    rw [bind_eq h1, bind_eq h2]
    simp only [(k2.va r1).1, r2.1, q3']
    rfl
  | true =>
    obtain ⟨zz, g4, q4, q⟩ := S.inv q
    obtain ⟨r, q5, rfl, rfl⟩ := sOp_inv q
    obtain ⟨v', e3, h3, f3, k3, r3⟩ := hc e2 _ zz _ f2 q4
    refine ⟨r.ev, e3, ?_, f3, k1.trans (k2.trans k3), r.ha (w.wf _ _ _ q5)⟩
    unfold mChain
    rw [bind_eq h1, bind_eq h2]
    simp only [(k2.va r1).1, r2.1, q3']
    simp only [if_true]
    rw [bind_eq h3]
    simp only [(k3.va r2).1, r3.1, q5, Option.map_some, M.opt, M.pure]
end
end DL
/-! functional mirrors: patterns, comprehensions, statements, defs -/
namespace DL
open PySem L2
/-! patterns -/
theorem Fits.setD {t : List SS} {e : Env'} (f : Fits t e) (i : Nat) (x : PyData) : Fits (t.set i (.d x)) (e.set i (.d x)) := f.set (s := .d x) i rfl
structure PatOk {α : Type} (p : Pat) (vs : List Nat) (un : PyData → Option α) (se : α → List SS → List SS) (n : Nat) : Prop where
  run : ∀ (x : PyData) (q : α) (t : List SS) (e : Env'), t.length = n → un x = some q → Fits t e → ∃ e', asg p x e = some e' ∧ Fits (se q t) e' ∧ ∀ j, j ∉ vs → e'[j]? = e[j]?
def un1 (x : PyData) : Option PyData := some x
def un2 : PyData → Option (PyData × PyData)
  | .tuple [a, b] => some (a, b)
  | _ => none
def un3 : PyData → Option (PyData × PyData × PyData)
  | .tuple [a, b, c] => some (a, b, c)
  | _ => none
def un4 : PyData → Option (PyData × PyData × PyData × PyData)
  | .tuple [a, b, c, d] => some (a, b, c, d)
  | _ => none
/-- ((a, b), c) -/
def un21 : PyData → Option (PyData × PyData × PyData)
  | .tuple [.tuple [a, b], c] => some (a, b, c)
  | _ => none
/-- (a, (b, c)) -/
def un12 : PyData → Option (PyData × PyData × PyData)
  | .tuple [a, .tuple [b, c]] => some (a, b, c)
  | _ => none
theorem asg_nm {i : Nat} {x : PyData} {e : Env'} (h : i < e.length) : asg (.nm i) x e = some (e.set i (.d x)) := by simp [asg, h]
theorem pat1 {i n : Nat} (h : i < n) : PatOk (.nm i) [i] un1 (fun q t => t.set i (.d q)) n := ⟨fun x q t e ht hq f => by
  cases hq
  refine ⟨_, asg_nm (by rw [f.len, ht]; exact h), f.set i rfl, fun j hj => ?_⟩
  exact get_set_ne (fun z => hj (by simp [z]))⟩
theorem pat2 {i j n : Nat} (h : i < n ∧ j < n) : PatOk (.tp [.nm i, .nm j]) [i, j] un2 (fun q t => (t.set i (.d q.1)).set j (.d q.2)) n := ⟨fun x q t e ht hq f => by
  unfold un2 at hq
  split at hq
  · cases hq
    refine ⟨_, ?_, (f.setD i _).setD j _, fun k hk => ?_⟩
    · simp only [asg, asgL, f.len, ht, h.1, h.2, if_true, List.length_set]
    · simp only [List.mem_cons, List.not_mem_nil, or_false, not_or] at hk
      rw [get_set_ne (fun z => hk.2 z.symm), get_set_ne (fun z => hk.1 z.symm)]
  · cases hq⟩
theorem pat3 {i j k n : Nat} (h : i < n ∧ j < n ∧ k < n) : PatOk (.tp [.nm i, .nm j, .nm k]) [i, j, k] un3 (fun q t => ((t.set i (.d q.1)).set j (.d q.2.1)).set k (.d q.2.2)) n := ⟨fun x q t e ht hq f => by
  unfold un3 at hq
  split at hq
  · cases hq
    refine ⟨_, ?_, ((f.setD i _).setD j _).setD k _, fun l hl => ?_⟩
    · simp only [asg, asgL, f.len, ht, h.1, h.2.1, h.2.2, if_true, List.length_set]
    · simp only [List.mem_cons, List.not_mem_nil, or_false, not_or] at hl
      rw [get_set_ne (fun z => hl.2.2 z.symm), get_set_ne (fun z => hl.2.1 z.symm), get_set_ne (fun z => hl.1 z.symm)]
  · cases hq⟩
theorem pat4 {i j k m n : Nat} (h : i < n ∧ j < n ∧ k < n ∧ m < n) : PatOk (.tp [.nm i, .nm j, .nm k, .nm m]) [i, j, k, m] un4 (fun q t => (((t.set i (.d q.1)).set j (.d q.2.1)).set k (.d q.2.2.1)).set m (.d q.2.2.2)) n := ⟨fun x q t e ht hq f => by
  unfold un4 at hq
  split at hq
  · cases hq
    refine ⟨_, ?_, (((f.setD i _).setD j _).setD k _).setD m _, fun l hl => ?_⟩
    · simp only [asg, asgL, f.len, ht, h.1, h.2.1, h.2.2.1, h.2.2.2, if_true, List.length_set]
    · simp only [List.mem_cons, List.not_mem_nil, or_false, not_or] at hl
      rw [get_set_ne (fun z => hl.2.2.2 z.symm), get_set_ne (fun z => hl.2.2.1 z.symm), get_set_ne (fun z => hl.2.1 z.symm), get_set_ne (fun z => hl.1 z.symm)]
  · cases hq⟩
theorem pat21 {i j k n : Nat} (h : i < n ∧ j < n ∧ k < n) : PatOk (.tp [.tp [.nm i, .nm j], .nm k]) [i, j, k] un21 (fun q t => ((t.set i (.d q.1)).set j (.d q.2.1)).set k (.d q.2.2)) n := ⟨fun x q t e ht hq f => by
  unfold un21 at hq
  split at hq
  · cases hq
    refine ⟨_, ?_, ((f.setD i _).setD j _).setD k _, fun l hl => ?_⟩
    · simp only [asg, asgL, f.len, ht, h.1, h.2.1, h.2.2, if_true, List.length_set]
    · simp only [List.mem_cons, List.not_mem_nil, or_false, not_or] at hl
      rw [get_set_ne (fun z => hl.2.2 z.symm), get_set_ne (fun z => hl.2.1 z.symm), get_set_ne (fun z => hl.1 z.symm)]
  · cases hq⟩
theorem pat12 {i j k n : Nat} (h : i < n ∧ j < n ∧ k < n) : PatOk (.tp [.nm i, .tp [.nm j, .nm k]]) [i, j, k] un12 (fun q t => ((t.set i (.d q.1)).set j (.d q.2.1)).set k (.d q.2.2)) n := ⟨fun x q t e ht hq f => by
  unfold un12 at hq
  split at hq
  · cases hq
    refine ⟨_, ?_, ((f.setD i _).setD j _).setD k _, fun l hl => ?_⟩
    · simp only [asg, asgL, f.len, ht, h.1, h.2.1, h.2.2, if_true, List.length_set]
    · simp only [List.mem_cons, List.not_mem_nil, or_false, not_or] at hl
      rw [get_set_ne (fun z => hl.2.2 z.symm), get_set_ne (fun z => hl.2.1 z.symm), get_set_ne (fun z => hl.1 z.symm)]
  · cases hq⟩
/-! comprehensions -/
def mapG {α β : Type} (f : α → S β) : List α → S (List β)
  | [] => pure []
  | x :: xs => f x >>= fun y => mapG f xs >>= fun ys => pure (y :: ys)
def compG {α β : Type} (f : α → S (Option β)) : List α → S (List β)
  | [] => pure []
  | x :: xs => f x >>= fun o => compG f xs >>= fun ys => pure (o.toList ++ ys)
def sComp {α : Type} (un : PyData → Option α) (items : S (List PyData)) (ct : α → S Bool) (ce : α → S PyData) : S PyData :=
  items >>= fun xs => compG (fun x => S.opt (un x) >>= fun q => ct q >>= fun b => if b then ce q >>= fun y => pure (some y) else pure none) xs >>= sSz .list
def sCompA {α : Type} (un : PyData → Option α) (items : S (List PyData)) (ce : α → S PyData) : S PyData :=
  items >>= fun xs => mapG (fun x => S.opt (un x) >>= ce) xs >>= sSz .list
def wipeT (t : List SS) : List Nat → List SS
  | [] => t
  | v :: vs => (wipeT t vs).set v .jk
theorem wipeT_len (t : List SS) : ∀ vs : List Nat, (wipeT t vs).length = t.length
  | [] => rfl
  | v :: vs => by simp [wipeT, wipeT_len t vs]
theorem Fits.wipe {t : List SS} {e : Env'} (f : Fits t e) : ∀ vs : List Nat, Fits (wipeT t vs) (wipeE e vs)
  | [] => f
  | v :: vs => (f.wipe vs).set v nofun
def SS.calm : SS → Bool
  | .d _ => true
  | .src _ => true
  | .scr _ => true
  | .jk => true
  | _ => false
def noOwnT (t : List SS) (vs : List Nat) : Bool := vs.all fun i => match t[i]? with
  | some s => s.calm
  | none => false
theorem noOwn_of {t : List SS} {e : Env'} (f : Fits t e) {vs : List Nat} (h : noOwnT t vs = true) : noOwn e vs = true := by
  unfold noOwn
  unfold noOwnT at h
  rw [List.all_eq_true] at h ⊢
  intro i hi
  have hi := h i hi
  split at hi
  · rename_i s hs
    obtain ⟨x, h1, h2⟩ := f.get hs
    rw [h1]
    cases s with
    | d y => cases (show x = .d y from h2); rfl
    | src b => cases (show x = .src b from h2); rfl
    | scr ns => cases (show x = .scr ns from h2); rfl
    | jk => cases x with
      | own y => exact absurd rfl (h2 y)
      | _ => rfl
    | _ => cases hi
  · cases hi
/-- but for the slots vs -/
def KeepX (vs : List Nat) (e e' : Env') : Prop := ∀ j, j ∉ vs → ∀ x, look e (.bo j) = some x → look e' (.bo j) = some x
theorem KeepX.refl {vs : List Nat} {e : Env'} : KeepX vs e e := fun _ _ _ h => h
theorem KeepX.trans {vs : List Nat} {a b c : Env'} (h : KeepX vs a b) (k : KeepX vs b c) : KeepX vs a c := fun j hj x q => k j hj x (h j hj x q)
theorem Keep.x {vs : List Nat} {a b : Env'} (h : Keep a b) : KeepX vs a b := fun j _ x q => h j x q
theorem keepX_of {vs : List Nat} {a b : Env'} (h : ∀ j, j ∉ vs → b[j]? = a[j]?) : KeepX vs a b := fun j hj x q => by
  simp only [look, h j hj] at q ⊢
  exact q
theorem loopC_T {α : Type} {p : Pat} {vs : List Nat} {un : PyData → Option α} {se : α → List SS → List SS} {tw : List SS} {mt : M Bool} {me : M PyData} {ct : α → S Bool} {ce : α → S PyData} {tc : α → List SS} {te : α → List SS} (hp : PatOk p vs un se tw.length)
    (hc : ∀ q, T EQ (se q tw) mt (ct q) (tc q)) (he : ∀ q, T EQ (tc q) me (ce q) (te q)) (l1 : ∀ q, LE (wipeT (tc q) vs) tw) (l2 : ∀ q, LE (wipeT (te q) vs) tw) :
    ∀ (xs acc : List PyData) (e : Env') (g : G) (ys : List PyData) (g' : G), Fits tw e → acc.length + ys.length ≤ sizeLine →
      compG (fun x => S.opt (un x) >>= fun q => ct q >>= fun b => if b then ce q >>= fun y => pure (some y) else pure none) xs g = some (ys, g') → ∃ e', loopC p vs mt me xs acc e g = .ok (acc ++ ys) e' g' ∧ Fits tw e' ∧ KeepX vs e e'
  | [], acc, e, g, ys, g', f, hz, q => by
    obtain ⟨rfl, rfl⟩ := S.inv0 q
    exact ⟨e, by simp [loopC, M.pure], f, .refl⟩
  | x :: xs, acc, e, g, ys, g', f, hz, q => by
    obtain ⟨o, g1, q1, q2⟩ := S.inv q
    obtain ⟨zs, g2, q3, q4⟩ := S.inv q2
    obtain ⟨rfl, rfl⟩ := S.inv0 q4
    obtain ⟨a, g3, q5, q6⟩ := S.inv q1
    obtain ⟨q7, rfl⟩ := S.invO q5
    obtain ⟨b, g4, q8, q9⟩ := S.inv q6
    obtain ⟨e1, h1, f1, k1⟩ := hp.run x a tw e rfl q7 f
    obtain ⟨b', e2, h2, f2, k2, r2⟩ := hc a e1 _ b _ f1 q8
    cases r2
    unfold loopC
    rw [h1]
    dsimp only
    rw [bind_eq h2]
    have kw : ∀ {e e2 : Env'}, KeepX vs e e2 → KeepX vs e (wipeE e2 vs) := fun k => k.trans (keepX_of fun j hj => wipeE_out hj)
    cases b with
    | true =>
      obtain ⟨y, g5, q10, q11⟩ := S.inv (m := ce a) (f := fun y => pure (some y)) q9
      obtain ⟨rfl, rfl⟩ := S.inv0 q11
      obtain ⟨y', e3, h3, f3, k3, r3⟩ := he a e2 _ y _ f2 q10
      cases r3
      have hz' : acc.length + (zs.length + 1) ≤ sizeLine := by
        have : (Option.toList (some y) ++ zs).length = zs.length + 1 := by simp
        rw [this] at hz; exact hz
      obtain ⟨e', h4, f4, k4⟩ := loopC_T hp hc he l1 l2 xs (acc ++ [y]) (wipeE e3 vs) _ zs _ ((l2 a).fits (f3.wipe vs)) (by simp; omega) q3
      refine ⟨e', ?_, f4, ?_⟩
      · rw [if_pos rfl, bind_eq h3, if_pos (by omega), h4]
        simp
      · exact (kw ((keepX_of k1).trans (k2.x.trans k3.x))).trans k4
    | false =>
      obtain ⟨rfl, rfl⟩ := S.inv0 (a := (none : Option PyData)) q9
      obtain ⟨e', h4, f4, k4⟩ := loopC_T hp hc he l1 l2 xs acc (wipeE e2 vs) _ zs _ ((l1 a).fits (f2.wipe vs)) (by simpa using hz) q3
      refine ⟨e', ?_, f4, ?_⟩
      · rw [if_neg Bool.false_ne_true, h4]
        simp
      · exact (kw ((keepX_of k1).trans k2.x)).trans k4
theorem Fits.ext : ∀ {t : List SS} {e : Env'}, e.length = t.length → (∀ (i : Nat) (s : SS) (x : Slot), t[i]? = some s → e[i]? = some x → s.ok x) → Fits t e
  | [], [], _, _ => trivial
  | t :: ts, x :: xs, hl, h => ⟨h 0 t x rfl rfl, Fits.ext (by simpa using hl) fun i s y h1 h2 => h (i + 1) s y (by simpa using h1) (by simpa using h2)⟩
  | [], _ :: _, hl, _ => by simp at hl
  | _ :: _, [], hl, _ => by simp at hl
theorem wipeT_out {t : List SS} {i : Nat} : ∀ {vs : List Nat}, i ∉ vs → (wipeT t vs)[i]? = t[i]?
  | [], _ => rfl
  | v :: vs, h => by
    rw [List.mem_cons, not_or] at h
    unfold wipeT
    rw [List.getElem?_set_ne (fun z => h.1 z.symm)]
    exact wipeT_out h.2
theorem block_T {vs : List Nat} {t1 : List SS} {e e1 : Env'} (f : Fits t1 e) (h : Fits (wipeT t1 vs) e1) (k : KeepX vs (wipeE e vs) e1) : Fits t1 (backE e e1 vs) ∧ Keep e (backE e e1 vs) := by
  have hl : e1.length = t1.length := by rw [h.len, wipeT_len]
  have he := f.len
  constructor
  · refine Fits.ext (by rw [backE_length]; exact hl) fun i s x h1 h2 => ?_
    by_cases hi : i ∈ vs
    · obtain ⟨y, h3, h4⟩ := f.get h1
      have hb := backE_get_in (e := e1) hi h3 (by
        rcases Nat.lt_or_ge i e1.length with z | z
        · exact z
        · rw [List.getElem?_eq_none (by omega)] at h1; cases h1)
      rw [hb] at h2
      cases h2
      exact h4
    · rw [backE_get_out hi] at h2
      obtain ⟨y, h3, h4⟩ := h.get ((wipeT_out hi).trans h1)
      rw [h2] at h3
      cases h3
      exact h4
  · intro j x hj
    by_cases hi : j ∈ vs
    · have hh : ∃ s, e[j]? = some s := by
        cases q : e[j]? with
        | none => simp [look, q] at hj
        | some s => exact ⟨s, rfl⟩
      obtain ⟨s, hs⟩ := hh
      have hb := backE_get_in (e := e1) hi hs (by
        rcases Nat.lt_or_ge j e.length with z | z
        · omega
        · rw [List.getElem?_eq_none (by omega)] at hs; cases hs)
      simp only [look, hb, hs] at hj ⊢
      exact hj
    · have h1 : look (wipeE e vs) (.bo j) = some x := by
        simp only [look, wipeE_out hi] at hj ⊢
        exact hj
      have h2 := k j hi x h1
      simp only [look, backE_get_out hi] at h2 ⊢
      exact h2
section
variable {t t1 t2 t3 : List SS}
theorem te_comp {α : Type} {p : Pat} {vs : List Nat} {un : PyData → Option α} {se : α → List SS → List SS} {mi : M (List PyData)} {mt : M Bool} {me : M PyData} {si : S (List PyData)} {ct : α → S Bool} {ce : α → S PyData} {tc te : α → List SS}
    (hi : T EQ t mi si t1) (no : noOwnT t1 vs = true) (hp : PatOk p vs un se (wipeT t1 vs).length)
    (hc : ∀ q, T EQ (se q (wipeT t1 vs)) mt (ct q) (tc q)) (he : ∀ q, T EQ (tc q) me (ce q) (te q)) (l1 : ∀ q, LE (wipeT (tc q) vs) (wipeT t1 vs)) (l2 : ∀ q, LE (wipeT (te q) vs) (wipeT t1 vs)) :
    T FR t (mComp p vs mi mt me) (sComp un si ct ce) t1 := by
  refine T.bind hi fun e u xs g b' g' f r q => ?_
  cases r
  obtain ⟨ys, g1, q1, q2⟩ := S.inv q
  obtain ⟨c, rfl, rfl⟩ := sSz_inv q2
  obtain ⟨e', h1, f1, k1⟩ := loopC_T hp hc he l1 l2 u [] (wipeE e vs) g ys _ (f.wipe vs) (by simpa using c) q1
  obtain ⟨f2, k2⟩ := block_T f f1 k1
  refine ⟨.fr (.list ys), _, ?_, f2, k2, FR.of rfl⟩
  have : blockOf vs (loopC p vs mt me u []) e g = .ok ys (backE e e' vs) g1 := by
    unfold blockOf
    rw [if_pos (noOwn_of f no), h1]
    rfl
  rw [bind_eq this]
  rfl
theorem compG_all {α : Type} {un : PyData → Option α} {ce : α → S PyData} : ∀ xs : List PyData, compG (fun x => S.opt (un x) >>= fun q => (pure true : S Bool) >>= fun b => if b then ce q >>= fun y => pure (some y) else pure none) xs = mapG (fun x => S.opt (un x) >>= ce) xs
  | [] => rfl
  | x :: xs => by
    unfold compG mapG
    rw [compG_all xs]
    simp
theorem te_compA {α : Type} {p : Pat} {vs : List Nat} {un : PyData → Option α} {se : α → List SS → List SS} {mi : M (List PyData)} {me : M PyData} {si : S (List PyData)} {ce : α → S PyData} {te : α → List SS}
    (hi : T EQ t mi si t1) (no : noOwnT t1 vs = true) (hp : PatOk p vs un se (wipeT t1 vs).length)
    (he : ∀ q, T EQ (se q (wipeT t1 vs)) me (ce q) (te q)) (l1 : ∀ q, LE (wipeT (se q (wipeT t1 vs)) vs) (wipeT t1 vs)) (l2 : ∀ q, LE (wipeT (te q) vs) (wipeT t1 vs)) :
    T FR t (mComp p vs mi mYes me) (sCompA un si ce) t1 := by
  have h := te_comp (ct := fun _ => pure true) hi no hp (fun q => fun e g b g' f z => by
    obtain ⟨rfl, rfl⟩ := S.inv0 z
    exact ⟨true, e, rfl, f, .refl, rfl⟩) he l1 l2
  have e : sComp un si (fun _ => pure true) ce = sCompA un si ce := by
    unfold sComp sCompA
    simp only [compG_all]
  rw [← e]
  exact h
/-! ### statements -/
def TF {σ : Type} (t : List SS) (m : M Fl) (s : S σ) (t' : σ → List SS) : Prop := ∀ e g v g', Fits t e → s g = some (v, g') → ∃ e', m e g = .ok .nx e' g' ∧ Fits (t' v) e'
def TRt (t : List SS) (m : M Fl) (s : S PyData) : Prop := ∀ e g x g', Fits t e → s g = some (x, g') → ∃ ev e', m e g = .ok (.rt ev) e' g' ∧ HA [] ev x
inductive Out (κ σ : Type) where
  | ret (x : PyData)
  | brk (v : κ)
  | ctn (v : κ)
  | nxt (v : σ)
def OutOk {κ σ : Type} (tl : κ → List SS) (tn : σ → List SS) (g' : G) : Out κ σ → R Fl → Prop
  | .ret x, r => ∃ ev e', r = .ok (.rt ev) e' g' ∧ HA [] ev x
  | .brk v, r => ∃ e', r = .ok .bk e' g' ∧ Fits (tl v) e'
  | .ctn v, r => ∃ e', r = .ok .ct e' g' ∧ Fits (tl v) e'
  | .nxt v, r => ∃ e', r = .ok .nx e' g' ∧ Fits (tn v) e'
def TB {κ σ : Type} (t : List SS) (m : M Fl) (s : S (Out κ σ)) (tl : κ → List SS) (tn : σ → List SS) : Prop := ∀ e g o g', Fits t e → s g = some (o, g') → OutOk tl tn g' o (m e g)
variable {σ τ κ : Type}
theorem tf_nx {t' : σ → List SS} {v : σ} (l : LE t (t' v)) : TF t mNx (pure v) t' := fun e g u g' f q => by
  obtain ⟨rfl, rfl⟩ := S.inv0 q
  exact ⟨e, rfl, l.fits f⟩
theorem tf_weak {m : M Fl} {s : S σ} {t' : σ → List SS} {t'' : τ → List SS} (f : σ → τ) (h : TF t m s t') (l : ∀ v, LE (t' v) (t'' (f v))) : TF t m (s >>= fun v => pure (f v)) t'' := fun e g u g' hf q => by
  obtain ⟨v, g1, q1, q2⟩ := S.inv q
  obtain ⟨rfl, rfl⟩ := S.inv0 q2
  obtain ⟨e', h1, h2⟩ := h e g v _ hf q1
  exact ⟨e', h1, (l v).fits h2⟩
theorem tf_setF {i : Nat} {m : M EV} {s : S PyData} (h : T FR t m s t1) : TF t (mSet i m) s fun x => t1.set i (.ow x) := fun e g x g' f q => by
  obtain ⟨ev, e', h1, h2, _, h3⟩ := h e g x g' f q
  cases c : isObj x with
  | true =>
    cases h3.1 c
    exact ⟨_, by unfold mSet; rw [bind_eq h1]; rfl, h2.set i ⟨fun _ => rfl, fun z => (by rw [c] at z; cases z)⟩⟩
  | false =>
    cases h3.2 c
    exact ⟨_, by unfold mSet; rw [bind_eq h1]; rfl, h2.set i ⟨fun z => (by rw [c] at z; cases z), fun _ => rfl⟩⟩
theorem tf_setD {i : Nat} {m : M EV} {s : S PyData} (h : T HD t m s t1) : TF t (mSet i m) s fun x => t1.set i (.d x) := fun e g x g' f q => by
  obtain ⟨ev, e', h1, h2, _, h3⟩ := h e g x g' f q
  cases h3
  exact ⟨_, by unfold mSet; rw [bind_eq h1]; rfl, h2.set i rfl⟩
theorem tf_setV {i : Nat} {m : M EV} {s : S PyData} (h : T HA t m s t1) : TF t (mSet i m) s fun x => t1.set i (.va x) := fun e g x g' f q => by
  obtain ⟨ev, e', h1, h2, _, h3⟩ := h e g x g' f q
  rcases h3 with rfl | ⟨rfl, h4⟩
  · exact ⟨_, by unfold mSet; rw [bind_eq h1]; rfl, h2.set i (.inl rfl)⟩
  · exact ⟨_, by unfold mSet; rw [bind_eq h1]; rfl, h2.set i (.inr ⟨rfl, h4⟩)⟩
theorem tf_drop {r : Env' → EV → PyData → Prop} {m : M EV} {s : S PyData} (h : T r t m s t1) : TF t (mDrop m) (s >>= fun _ => pure ()) fun _ => t1 := fun e g x g' f q => by
  obtain ⟨v, g1, q1, q2⟩ := S.inv q
  obtain ⟨_, rfl⟩ := S.inv0 q2
  obtain ⟨ev, e', h1, h2, _, _⟩ := h e g v _ f q1
  exact ⟨_, by unfold mDrop; rw [bind_eq h1]; rfl, h2⟩
def appS : PyData → PyData → S PyData
  | .list ds, d => if ds.length < sizeLine then pure (.list (ds ++ [d])) else S.fail
  | _, _ => S.fail
def extS : PyData → PyData → S PyData
  | .list ds, .list es => if ds.length + es.length ≤ sizeLine then pure (.list (ds ++ es)) else S.fail
  | _, _ => S.fail
def popS : PyData → S (PyData × PyData)
  | .list ds => match ds[ds.length - 1]? with
    | some d => pure (d, .list ds.dropLast)
    | none => S.fail
  | _ => S.fail
theorem appS_inv {x d y : PyData} {g g' : G} (h : appS x d g = some (y, g')) : ∃ ds, x = .list ds ∧ ds.length < sizeLine ∧ y = .list (ds ++ [d]) ∧ g = g' := by
  cases x <;> first | (cases h; done) | skip
  rename_i ds
  have h : (if ds.length < sizeLine then (pure (.list (ds ++ [d])) : S PyData) else S.fail) g = some (y, g') := h
  by_cases c : ds.length < sizeLine
  · rw [if_pos c] at h
    obtain ⟨rfl, rfl⟩ := S.inv0 h
    exact ⟨ds, rfl, c, rfl, rfl⟩
  · rw [if_neg c] at h; cases h
theorem extS_inv {x d y : PyData} {g g' : G} (h : extS x d g = some (y, g')) : ∃ ds es, x = .list ds ∧ d = .list es ∧ ds.length + es.length ≤ sizeLine ∧ y = .list (ds ++ es) ∧ g = g' := by
  cases x <;> first | (cases h; done) | skip
  cases d <;> first | (cases h; done) | skip
  rename_i ds es
  have h : (if ds.length + es.length ≤ sizeLine then (pure (.list (ds ++ es)) : S PyData) else S.fail) g = some (y, g') := h
  by_cases c : ds.length + es.length ≤ sizeLine
  · rw [if_pos c] at h
    obtain ⟨rfl, rfl⟩ := S.inv0 h
    exact ⟨ds, es, rfl, rfl, c, rfl, rfl⟩
  · rw [if_neg c] at h; cases h
theorem own_at {e : Env'} {i : Nat} {ds : List PyData} (h : e[i]? = some (.own (.list ds))) : ownIs i e = true ∧ ownL i e = some ds := by
  simp [ownIs, ownL, h]
theorem ow_get {e : Env'} {i : Nat} {x : PyData} (f : Fits t e) (h : t[i]? = some (.ow x)) (hx : isObj x = true := by rfl) : e[i]? = some (.own x) := by
  obtain ⟨s, h1, h2⟩ := f.get h
  rw [h1, h2.1 hx]
theorem ow_ok {x : PyData} (h : isObj x = true) : (SS.ow x).ok (.own x) := ⟨fun _ => rfl, fun z => (by rw [h] at z; cases z)⟩
theorem tf_append {i : Nat} {x : PyData} {m : M PyData} {s : S PyData} (h0 : t[i]? = some (.ow x)) (h : T EQ t m s t1) (h2 : t1[i]? = some (.ow x)) :
    TF t (mDrop (mOn i (mAppend i m))) (s >>= fun d => appS x d) fun y => t1.set i (.ow y) := fun e g y g' f q => by
  obtain ⟨d, g1, q1, q2⟩ := S.inv q
  obtain ⟨d', e', h1, f1, _, rfl⟩ := h e g d _ f q1
  obtain ⟨ds, rfl, c, rfl, rfl⟩ := appS_inv q2
  refine ⟨e'.set i (.own (.list (ds ++ [d']))), ?_, f1.set i (ow_ok rfl)⟩
  have hm : mOn i (mAppend i m) e g = .ok (.d .none) (e'.set i (.own (.list (ds ++ [d'])))) g1 := by
    unfold mOn
    rw [if_pos (own_at (ow_get f h0)).1]
    unfold mAppend
    rw [bind_eq h1]
    simp only [(own_at (ow_get f1 h2)).2, c, if_true]
  unfold mDrop
  rw [bind_eq hm]
  rfl
theorem tf_extend {i : Nat} {x : PyData} {m : M EV} {s : S PyData} (h0 : t[i]? = some (.ow x)) (h : T VA t m s t1) (h2 : t1[i]? = some (.ow x)) :
    TF t (mDrop (mOn i (mExtend i m))) (s >>= fun d => extS x d) fun y => t1.set i (.ow y) := fun e g y g' f q => by
  obtain ⟨d, g1, q1, q2⟩ := S.inv q
  obtain ⟨d', e', h1, f1, _, hr⟩ := h e g d _ f q1
  obtain ⟨ds, es, rfl, rfl, c, rfl, rfl⟩ := extS_inv q2
  refine ⟨e'.set i (.own (.list (ds ++ es))), ?_, f1.set i (ow_ok rfl)⟩
  have hm : mOn i (mExtend i m) e g = .ok (.d .none) (e'.set i (.own (.list (ds ++ es)))) g1 := by
    unfold mOn
    rw [if_pos (own_at (ow_get f h0)).1]
    unfold mExtend
    rw [bind_eq h1]
    simp only [(own_at (ow_get f1 h2)).2, hr.1, c, if_true]
  unfold mDrop
  rw [bind_eq hm]
  rfl
theorem pop_eq {e : Env'} {i : Nat} {x d y : PyData} {g g' : G} (f : Fits t e) (h0 : t[i]? = some (.ow x)) (q : popS x g = some ((d, y), g')) : mPop i e g = .ok (.d d) (e.set i (.own y)) g' ∧ isObj y = true := by
  cases x <;> first | (cases q; done) | skip
  rename_i ds
  unfold popS at q
  dsimp only at q
  cases c : ds[ds.length - 1]? with
  | none => rw [c] at q; cases q
  | some z =>
    rw [c] at q
    obtain ⟨q1, rfl⟩ := S.inv0 q
    cases q1
    exact ⟨by simp only [mPop, (own_at (ow_get f h0)).2, c], rfl⟩
theorem tf_pop {i : Nat} {x : PyData} (h0 : t[i]? = some (.ow x)) : TF t (mDrop (mPop i)) (popS x >>= fun q => pure q.2) fun y => t.set i (.ow y) := fun e g y g' f q => by
  obtain ⟨⟨d, z⟩, g1, q1, q2⟩ := S.inv q
  obtain ⟨rfl, rfl⟩ := S.inv0 q2
  obtain ⟨h1, h2⟩ := pop_eq f h0 q1
  exact ⟨_, by unfold mDrop; rw [bind_eq h1]; rfl, f.set i (ow_ok h2)⟩
theorem tf_setPop {i j : Nat} {x : PyData} (h0 : t[i]? = some (.ow x)) : TF t (mSet j (mPop i)) (popS x) fun q => (t.set i (.ow q.2)).set j (.d q.1) := fun e g y g' f q => by
  obtain ⟨h1, h2⟩ := pop_eq (d := y.1) (y := y.2) f h0 q
  exact ⟨_, by unfold mSet; rw [bind_eq h1]; rfl, (f.set (s := .ow y.2) i (ow_ok h2)).setD j _⟩
theorem tf_asgP {α : Type} {p : Pat} {vs : List Nat} {un : PyData → Option α} {se : α → List SS → List SS} {m : M PyData} {s : S PyData} (h : T EQ t m s t1) (hp : PatOk p vs un se t1.length) : TF t (mAsgP p m) (s >>= fun x => S.opt (un x)) fun q => se q t1 := fun e g y g' f q => by
  obtain ⟨d, g1, q1, q2⟩ := S.inv q
  obtain ⟨q3, rfl⟩ := S.invO q2
  obtain ⟨d', e', h1, f1, _, rfl⟩ := h e g d _ f q1
  obtain ⟨e2, h2, f2, _⟩ := hp.run d' y t1 e' rfl q3 f1
  exact ⟨e2, by unfold mAsgP; rw [bind_eq h1]; simp only [h2], f2⟩
structure Sto (r : Env' → EV → PyData → Prop) (ss : PyData → SS) : Prop where
  ok : ∀ e ev x, r e ev x → ∃ s, slotOf ev = some s ∧ (ss x).ok s
theorem stoD : Sto HD SS.d := ⟨fun e ev x h => by cases h; exact ⟨_, rfl, rfl⟩⟩
theorem stoV : Sto HA SS.va := ⟨fun e ev x h => by
  rcases h with rfl | ⟨rfl, h⟩
  · exact ⟨_, rfl, .inl rfl⟩
  · exact ⟨_, rfl, .inr ⟨rfl, h⟩⟩⟩
theorem stoF : Sto FR SS.ow := ⟨fun e ev x h => by
  cases c : isObj x with
  | true => cases h.1 c; exact ⟨_, rfl, fun _ => rfl, fun z => (by rw [c] at z; cases z)⟩
  | false => cases h.2 c; exact ⟨_, rfl, fun z => (by rw [c] at z; cases z), fun _ => rfl⟩⟩
theorem tf_parF {r1 r2 : Env' → EV → PyData → Prop} {ss1 ss2 : PyData → SS} {i j : Nat} {ma mb : M EV} {a b : S PyData} (k1 : Sto r1 ss1) (k2 : Sto r2 ss2) (hr : ∀ e e' ev x, r1 e ev x → r1 e' ev x) (ha : T r1 t ma a t1) (hb : T r2 t1 mb b t2) :
    TF t (mParF i j ma mb) (a >>= fun x => b >>= fun y => pure (x, y)) fun q => (t2.set i (ss1 q.1)).set j (ss2 q.2) := fun e g y g' f q => by
  obtain ⟨x, g1, q1, q2⟩ := S.inv q
  obtain ⟨z, g2, q3, q4⟩ := S.inv q2
  obtain ⟨rfl, rfl⟩ := S.inv0 q4
  obtain ⟨u, e1, h1, f1, _, p1⟩ := ha e g x g1 f q1
  obtain ⟨w, e2, h2, f2, _, p2⟩ := hb e1 g1 z _ f1 q3
  obtain ⟨s1, n1, o1⟩ := k1.ok _ _ _ p1
  obtain ⟨s2, n2, o2⟩ := k2.ok _ _ _ p2
  exact ⟨_, by unfold mParF; rw [bind_eq h1, bind_eq h2]; simp only [n1, n2], (f2.set i o1).set j o2⟩
def two : List PyData → Option (PyData × PyData)
  | [a, b] => some (a, b)
  | _ => none
def three : List PyData → Option (PyData × PyData × PyData)
  | [a, b, c] => some (a, b, c)
  | _ => none
theorem tf_par {i j : Nat} {m : M (List EV)} {s : S (List PyData)} (h : T DS' t m s t1) : TF t (mPar i j m) (s >>= fun xs => S.opt (two xs)) fun q => (t1.set i (.d q.1)).set j (.d q.2) := fun e g y g' f q => by
  obtain ⟨d, g1, q1, q2⟩ := S.inv q
  obtain ⟨q3, rfl⟩ := S.invO q2
  obtain ⟨d', e', h1, f1, _, h3⟩ := h e g d _ f q1
  cases h3
  unfold two at q3
  split at q3
  · cases q3
    exact ⟨_, by unfold mPar; rw [bind_eq h1]; rfl, (f1.setD i _).setD j _⟩
  · cases q3
theorem tf_par3 {i j k : Nat} {m : M (List EV)} {s : S (List PyData)} (h : T DS' t m s t1) : TF t (mPar3 i j k m) (s >>= fun xs => S.opt (three xs)) fun q => ((t1.set i (.d q.1)).set j (.d q.2.1)).set k (.d q.2.2) := fun e g y g' f q => by
  obtain ⟨d, g1, q1, q2⟩ := S.inv q
  obtain ⟨q3, rfl⟩ := S.invO q2
  obtain ⟨d', e', h1, f1, _, h3⟩ := h e g d _ f q1
  cases h3
  unfold three at q3
  split at q3
  · cases q3
    exact ⟨_, by unfold mPar3; rw [bind_eq h1]; rfl, ((f1.setD i _).setD j _).setD k _⟩
  · cases q3
theorem tf_seq {a b : M Fl} {sa : S σ} {sb : σ → S τ} {ta : σ → List SS} {tb : τ → List SS} (ha : TF t a sa ta) (hb : ∀ v, TF (ta v) b (sb v) tb) : TF t (mSeqS a b) (sa >>= sb) tb := fun e g u g' f q => by
  obtain ⟨v, g1, q1, q2⟩ := S.inv q
  obtain ⟨e1, h1, f1⟩ := ha e g v g1 f q1
  obtain ⟨e2, h2, f2⟩ := hb v e1 g1 u g' f1 q2
  exact ⟨e2, by unfold mSeqS; rw [bind_eq h1]; exact h2, f2⟩
theorem tf_if {mc : M Bool} {a b : M Fl} {c : S Bool} {sa sb : S σ} {t' : σ → List SS} (hc : T EQ t mc c t1) (ha : TF t1 a sa t') (hb : TF t1 b sb t') : TF t (mIfS mc a b) (sIf c sa sb) t' := fun e g u g' f q => by
  obtain ⟨v, g1, q1, q2⟩ := S.inv q
  obtain ⟨v', e1, h1, f1, _, r⟩ := hc e g v g1 f q1
  cases r
  cases v with
  | true =>
    obtain ⟨e2, h2, f2⟩ := ha e1 g1 u g' f1 q2
    exact ⟨e2, by unfold mIfS; rw [bind_eq h1]; exact h2, f2⟩
  | false =>
    obtain ⟨e2, h2, f2⟩ := hb e1 g1 u g' f1 q2
    exact ⟨e2, by unfold mIfS; rw [bind_eq h1]; exact h2, f2⟩
def foldS {α σ : Type} (f : σ → α → S σ) : List α → σ → S σ
  | [], v => pure v
  | x :: xs, v => f v x >>= foldS f xs
theorem tf_for {α : Type} {p : Pat} {vs : List Nat} {un : PyData → Option α} {se : α → List SS → List SS} {mi : M (List PyData)} {mb : M Fl} {si : S (List PyData)} {tl : σ → List SS} {sb : σ → α → S σ} {n : Nat} (v0 : σ)
    (hi : T EQ t mi si t1) (l0 : LE t1 (tl v0)) (hn : ∀ v, (tl v).length = n) (hp : PatOk p vs un se n) (hb : ∀ v q, TF (se q (tl v)) mb (sb v q) tl) :
    TF t (mFor p mi mb) (si >>= fun xs => foldS (fun v x => S.opt (un x) >>= sb v) xs v0) tl := fun e g u g' f q => by
  obtain ⟨xs, g1, q1, q2⟩ := S.inv q
  obtain ⟨xs', e1, h1, f1, _, r⟩ := hi e g xs g1 f q1
  cases r
  have main : ∀ (xs : List PyData) (v : σ) (e : Env') (g g' : G), Fits (tl v) e → foldS (fun v x => S.opt (un x) >>= sb v) xs v g = some (u, g') → ∃ e', forD p mb xs e g = .ok .nx e' g' ∧ Fits (tl u) e' := by
    intro xs
    induction xs with
    | nil =>
      intro v e g g' f q
      obtain ⟨rfl, rfl⟩ := S.inv0 q
      exact ⟨e, rfl, f⟩
    | cons x xs ih =>
      intro v e g g' f q
      obtain ⟨v', g1, q1, q2⟩ := S.inv q
      obtain ⟨a, g2, q3, q4⟩ := S.inv q1
      obtain ⟨q5, rfl⟩ := S.invO q3
      obtain ⟨e1, h1, f1, _⟩ := hp.run x a (tl v) e (hn v) q5 f
      obtain ⟨e2, h2, f2⟩ := hb v a e1 _ v' g1 f1 q4
      obtain ⟨e3, h3, f3⟩ := ih v' e2 g1 g' f2 q2
      refine ⟨e3, ?_, f3⟩
      unfold forD
      rw [h1]
      dsimp only
      rw [bind_eq h2]
      exact h3
  obtain ⟨e2, h2, f2⟩ := main xs v0 e1 g1 g' (l0.fits f1) q2
  exact ⟨e2, by unfold mFor; rw [bind_eq h1]; exact h2, f2⟩
def whileS {σ : Type} (c : σ → S Bool) (b : σ → S σ) : Nat → σ → S σ
  | 0, _ => S.fail
  | n + 1, v => c v >>= fun x => if x then b v >>= whileS c b n else pure v
theorem tf_while {mt : M Bool} {mb : M Fl} {tl : σ → List SS} {c : σ → S Bool} {b : σ → S σ} {k : Nat} (v0 : σ) (l0 : LE t (tl v0)) (hc : ∀ v, T EQ (tl v) mt (c v) (tl v)) (hb : ∀ v, TF (tl v) mb (b v) tl) :
    TF t (whileD mt mb k) (whileS c b k v0) tl := fun e g u g' f q => by
  have main : ∀ (k : Nat) (v : σ) (e : Env') (g g' : G), Fits (tl v) e → whileS c b k v g = some (u, g') → ∃ e', whileD mt mb k e g = .ok .nx e' g' ∧ Fits (tl u) e' := by
    intro k
    induction k with
    | zero => intro v e g g' f q; cases q
    | succ k ih =>
      intro v e g g' f q
      obtain ⟨x, g1, q1, q2⟩ := S.inv q
      obtain ⟨x', e1, h1, f1, _, r⟩ := hc v e g x g1 f q1
      cases r
      cases x with
      | true =>
        obtain ⟨v', g2, q3, q4⟩ := S.inv (m := b v) (f := whileS c b k) q2
        obtain ⟨e2, h2, f2⟩ := hb v e1 g1 v' g2 f1 q3
        obtain ⟨e3, h3, f3⟩ := ih v' e2 g2 g' f2 q4
        refine ⟨e3, ?_, f3⟩
        unfold whileD
        rw [bind_eq h1, if_pos rfl, bind_eq h2]
        exact h3
      | false =>
        obtain ⟨rfl, rfl⟩ := S.inv0 q2
        refine ⟨e1, ?_, f1⟩
        unfold whileD
        rw [bind_eq h1, if_neg Bool.false_ne_true]
        rfl
  exact main k v0 e g g' (l0.fits f) q
/-! giving back -/
theorem tr_ret {m : M EV} {s : S PyData} (h : T HA t m s t1) : TRt t (mRet m) s := fun e g x g' f q => by
  obtain ⟨ev, e', h1, h2, _, h3⟩ := h e g x g' f q
  refine ⟨ev, e', ?_, h3⟩
  unfold mRet
  rw [bind_eq h1]
  rcases h3 with rfl | ⟨rfl, h4⟩ <;> rfl
theorem tr_d {i : Nat} {x : PyData} (h : t[i]? = some (.d x)) : TRt t (mRetV i) (pure x) := fun e g y g' f q => by
  obtain ⟨rfl, rfl⟩ := S.inv0 q
  obtain ⟨s, h1, h2⟩ := f.get h
  cases (show s = .d x from h2)
  exact ⟨.d x, e, by simp only [mRetV, h1], .inl rfl⟩
theorem tr_o {i : Nat} {x : PyData} (h : t[i]? = some (.ow x)) : TRt t (mRetV i) (pure x) := fun e g y g' f q => by
  obtain ⟨rfl, rfl⟩ := S.inv0 q
  obtain ⟨s, h1, h2⟩ := LE1 h f
  rcases h2 with rfl | ⟨rfl, h2⟩
  · exact ⟨.d x, e, by simp only [mRetV, h1], .inl rfl⟩
  · exact ⟨.fr x, e.set i .un, by simp only [mRetV, h1], .inr ⟨rfl, h2⟩⟩
theorem tr_v {i : Nat} {x : PyData} (h : t[i]? = some (.va x)) : TRt t (mRetV i) (pure x) := fun e g y g' f q => by
  obtain ⟨rfl, rfl⟩ := S.inv0 q
  obtain ⟨s, h1, h2⟩ := f.get h
  rcases h2 with rfl | ⟨rfl, h2⟩
  · exact ⟨.d x, e, by simp only [mRetV, h1], .inl rfl⟩
  · exact ⟨.fr x, e.set i .un, by simp only [mRetV, h1], .inr ⟨rfl, h2⟩⟩
theorem tr_n : TRt t (M.pure (.rt (.d .none))) (pure .none) := fun e g y g' f q => by
  obtain ⟨rfl, rfl⟩ := S.inv0 q
  exact ⟨_, e, rfl, .inl rfl⟩
theorem tr_bad {m : M Fl} : TRt t m S.fail := fun e g y g' f q => by cases q
theorem tr_seq {a b : M Fl} {sa : S σ} {sb : σ → S PyData} {ta : σ → List SS} (ha : TF t a sa ta) (hb : ∀ v, TRt (ta v) b (sb v)) : TRt t (mSeqS a b) (sa >>= sb) := fun e g u g' f q => by
  obtain ⟨v, g1, q1, q2⟩ := S.inv q
  obtain ⟨e1, h1, f1⟩ := ha e g v g1 f q1
  obtain ⟨ev, e2, h2, f2⟩ := hb v e1 g1 u g' f1 q2
  exact ⟨ev, e2, by unfold mSeqS; rw [bind_eq h1]; exact h2, f2⟩
theorem tr_if {mc : M Bool} {a b : M Fl} {c : S Bool} {sa sb : S PyData} (hc : T EQ t mc c t1) (ha : TRt t1 a sa) (hb : TRt t1 b sb) : TRt t (mIfS mc a b) (sIf c sa sb) := fun e g u g' f q => by
  obtain ⟨v, g1, q1, q2⟩ := S.inv q
  obtain ⟨v', e1, h1, f1, _, r⟩ := hc e g v g1 f q1
  cases r
  cases v with
  | true =>
    obtain ⟨ev, e2, h2, f2⟩ := ha e1 g1 u g' f1 q2
    exact ⟨ev, e2, by unfold mIfS; rw [bind_eq h1]; exact h2, f2⟩
  | false =>
    obtain ⟨ev, e2, h2, f2⟩ := hb e1 g1 u g' f1 q2
    exact ⟨ev, e2, by unfold mIfS; rw [bind_eq h1]; exact h2, f2⟩
theorem seq_rt {a b : M Fl} {e e' : Env'} {g g' : G} {ev : EV} (h : a e g = .ok (.rt ev) e' g') : mSeqS a b e g = .ok (.rt ev) e' g' := by
  unfold mSeqS
  rw [bind_eq h]
  rfl
/-- an if that gives back, with the rest -/
theorem tr_if1 {mc : M Bool} {a r : M Fl} {c : S Bool} {sa sr : S PyData} (hc : T EQ t mc c t1) (ha : TRt t1 a sa) (hr : TRt t1 r sr) : TRt t (mSeqS (mIfS mc a mNx) r) (sIf c sa sr) := fun e g u g' f q => by
  obtain ⟨v, g1, q1, q2⟩ := S.inv q
  obtain ⟨v', e1, h1, f1, _, rr⟩ := hc e g v g1 f q1
  cases rr
  cases v with
  | true =>
    obtain ⟨ev, e2, h2, f2⟩ := ha e1 g1 u g' f1 q2
    exact ⟨ev, e2, seq_rt (by unfold mIfS; rw [bind_eq h1]; exact h2), f2⟩
  | false =>
    obtain ⟨ev, e2, h2, f2⟩ := hr e1 g1 u g' f1 q2
    have hn : mIfS mc a mNx e g = .ok .nx e1 g1 := by unfold mIfS; rw [bind_eq h1]; rfl
    exact ⟨ev, e2, by unfold mSeqS; rw [bind_eq hn]; exact h2, f2⟩
theorem tr_if1e {mc : M Bool} {a b r : M Fl} {c : S Bool} {sa : S PyData} {sb : S σ} {sr : σ → S PyData} {tb : σ → List SS} (hc : T EQ t mc c t1) (ha : TRt t1 a sa) (hb : TF t1 b sb tb) (hr : ∀ v, TRt (tb v) r (sr v)) : TRt t (mSeqS (mIfS mc a b) r) (sIf c sa (sb >>= sr)) := fun e g u g' f q => by
  obtain ⟨v, g1, q1, q2⟩ := S.inv q
  obtain ⟨v', e1, h1, f1, _, rr⟩ := hc e g v g1 f q1
  cases rr
  cases v with
  | true =>
    obtain ⟨ev, e2, h2, f2⟩ := ha e1 g1 u g' f1 q2
    exact ⟨ev, e2, seq_rt (by unfold mIfS; rw [bind_eq h1]; exact h2), f2⟩
  | false =>
    obtain ⟨w, g2, q3, q4⟩ := S.inv (m := sb) (f := sr) q2
    obtain ⟨e2, h2, f2⟩ := hb e1 g1 w g2 f1 q3
    obtain ⟨ev, e3, h3, f3⟩ := hr w e2 g2 u g' f2 q4
    have hn : mIfS mc a b e g = .ok .nx e2 g2 := by unfold mIfS; rw [bind_eq h1]; exact h2
    exact ⟨ev, e3, by unfold mSeqS; rw [bind_eq hn]; exact h3, f3⟩
def outR {κ σ : Type} (k : σ → S PyData) : Out κ σ → S PyData
  | .ret x => pure x
  | .nxt v => k v
  | _ => S.fail
theorem tr_out {a r : M Fl} {sa : S (Out κ σ)} {sr : σ → S PyData} {tl : κ → List SS} {tn : σ → List SS} (ha : TB t a sa tl tn) (hr : ∀ v, TRt (tn v) r (sr v)) : TRt t (mSeqS a r) (sa >>= outR sr) := fun e g u g' f q => by
  obtain ⟨o, g1, q1, q2⟩ := S.inv q
  have h := ha e g o g1 f q1
  cases o with
  | ret x =>
    obtain ⟨ev, e', h1, h2⟩ := h
    obtain ⟨rfl, rfl⟩ := S.inv0 q2
    exact ⟨ev, e', seq_rt h1, h2⟩
  | nxt v =>
    obtain ⟨e1, h1, f1⟩ := h
    obtain ⟨ev, e2, h2, f2⟩ := hr v e1 g1 u g' f1 q2
    exact ⟨ev, e2, by unfold mSeqS; rw [bind_eq h1]; exact h2, f2⟩
  | brk v => cases q2
  | ctn v => cases q2
/-! blocks with ways out -/
variable {tl : κ → List SS} {tn : σ → List SS}
theorem tb_ret {m : M Fl} {s : S PyData} (h : TRt t m s) : TB t m (s >>= fun x => pure (.ret x)) tl tn := fun e g o g' f q => by
  obtain ⟨x, g1, q1, q2⟩ := S.inv q
  obtain ⟨rfl, rfl⟩ := S.inv0 q2
  exact h e g x _ f q1
theorem tb_brk {v : κ} (l : LE t (tl v)) : TB t (M.pure .bk) (pure (.brk v)) tl tn := fun e g o g' f q => by
  obtain ⟨rfl, rfl⟩ := S.inv0 q
  exact ⟨e, rfl, l.fits f⟩
theorem tb_ctn {v : κ} (l : LE t (tl v)) : TB t (M.pure .ct) (pure (.ctn v)) tl tn := fun e g o g' f q => by
  obtain ⟨rfl, rfl⟩ := S.inv0 q
  exact ⟨e, rfl, l.fits f⟩
theorem tb_nx {v : σ} (l : LE t (tn v)) : TB t mNx (pure (.nxt v)) tl tn := fun e g o g' f q => by
  obtain ⟨rfl, rfl⟩ := S.inv0 q
  exact ⟨e, rfl, l.fits f⟩
theorem tb_f {m : M Fl} {s : S τ} {t' : τ → List SS} (k : τ → σ) (h : TF t m s t') (l : ∀ v, LE (t' v) (tn (k v))) : TB t m (s >>= fun v => pure (.nxt (k v))) tl tn := fun e g o g' f q => by
  obtain ⟨v, g1, q1, q2⟩ := S.inv q
  obtain ⟨rfl, rfl⟩ := S.inv0 q2
  obtain ⟨e', h1, h2⟩ := h e g v _ f q1
  exact ⟨e', h1, (l v).fits h2⟩
theorem OutOk.seq {a b : M Fl} {e e1 : Env'} {g g1 g' : G} {o : Out κ σ} (h : a e g = .ok .nx e1 g1) (k : OutOk tl tn g' o (b e1 g1)) : OutOk tl tn g' o (mSeqS a b e g) := by
  have : mSeqS a b e g = b e1 g1 := by unfold mSeqS; rw [bind_eq h]
  rw [this]
  exact k
theorem tb_seq {a b : M Fl} {sa : S τ} {sb : τ → S (Out κ σ)} {ta : τ → List SS} (ha : TF t a sa ta) (hb : ∀ v, TB (ta v) b (sb v) tl tn) : TB t (mSeqS a b) (sa >>= sb) tl tn := fun e g o g' f q => by
  obtain ⟨v, g1, q1, q2⟩ := S.inv q
  obtain ⟨e1, h1, f1⟩ := ha e g v g1 f q1
  exact OutOk.seq h1 (hb v e1 g1 o g' f1 q2)
theorem tb_if {mc : M Bool} {a b : M Fl} {c : S Bool} {sa sb : S (Out κ σ)} (hc : T EQ t mc c t1) (ha : TB t1 a sa tl tn) (hb : TB t1 b sb tl tn) : TB t (mIfS mc a b) (sIf c sa sb) tl tn := fun e g o g' f q => by
  obtain ⟨v, g1, q1, q2⟩ := S.inv q
  obtain ⟨v', e1, h1, f1, _, r⟩ := hc e g v g1 f q1
  cases r
  cases v with
  | true =>
    have := ha e1 g1 o g' f1 q2
    have z : mIfS mc a b e g = a e1 g1 := by unfold mIfS; rw [bind_eq h1]; rfl
    rw [z]; exact this
  | false =>
    have := hb e1 g1 o g' f1 q2
    have z : mIfS mc a b e g = b e1 g1 := by unfold mIfS; rw [bind_eq h1]; rfl
    rw [z]; exact this
theorem tb_if1 {mc : M Bool} {a r : M Fl} {c : S Bool} {sa : S PyData} {sr : S (Out κ σ)} (hc : T EQ t mc c t1) (ha : TRt t1 a sa) (hr : TB t1 r sr tl tn) : TB t (mSeqS (mIfS mc a mNx) r) (sIf c (sa >>= fun x => pure (.ret x)) sr) tl tn := fun e g o g' f q => by
  obtain ⟨v, g1, q1, q2⟩ := S.inv q
  obtain ⟨v', e1, h1, f1, _, rr⟩ := hc e g v g1 f q1
  cases rr
  cases v with
  | true =>
    obtain ⟨x, g2, q3, q4⟩ := S.inv (m := sa) (f := fun x => (pure (Out.ret x) : S (Out κ σ))) q2
    obtain ⟨rfl, rfl⟩ := S.inv0 q4
    obtain ⟨ev, e2, h2, f2⟩ := ha e1 g1 x _ f1 q3
    exact ⟨ev, e2, seq_rt (by unfold mIfS; rw [bind_eq h1]; exact h2), f2⟩
  | false =>
    have hn : mIfS mc a mNx e g = .ok .nx e1 g1 := by unfold mIfS; rw [bind_eq h1]; rfl
    exact OutOk.seq hn (hr e1 g1 o g' f1 q2)
/-- an if that goes on with the next lap, or ends the loop -/
theorem tb_if1c {mc : M Bool} {r : M Fl} {c : S Bool} {v : κ} {sr : S (Out κ σ)} (hc : T EQ t mc c t1) (l : LE t1 (tl v)) (hr : TB t1 r sr tl tn) : TB t (mSeqS (mIfS mc (M.pure .ct) mNx) r) (sIf c (pure (.ctn v)) sr) tl tn := fun e g o g' f q => by
  obtain ⟨w, g1, q1, q2⟩ := S.inv q
  obtain ⟨v', e1, h1, f1, _, rr⟩ := hc e g w g1 f q1
  cases rr
  cases w with
  | true =>
    obtain ⟨rfl, rfl⟩ := S.inv0 q2
    refine ⟨e1, ?_, l.fits f1⟩
    have hn : mIfS mc (M.pure .ct) mNx e g = .ok .ct e1 g1 := by unfold mIfS; rw [bind_eq h1]; rfl
    unfold mSeqS; rw [bind_eq hn]; rfl
  | false =>
    have hn : mIfS mc (M.pure .ct) mNx e g = .ok .nx e1 g1 := by unfold mIfS; rw [bind_eq h1]; rfl
    exact OutOk.seq hn (hr e1 g1 o g' f1 q2)
theorem tb_if1b {mc : M Bool} {r : M Fl} {c : S Bool} {v : κ} {sr : S (Out κ σ)} (hc : T EQ t mc c t1) (l : LE t1 (tl v)) (hr : TB t1 r sr tl tn) : TB t (mSeqS (mIfS mc (M.pure .bk) mNx) r) (sIf c (pure (.brk v)) sr) tl tn := fun e g o g' f q => by
  obtain ⟨w, g1, q1, q2⟩ := S.inv q
  obtain ⟨v', e1, h1, f1, _, rr⟩ := hc e g w g1 f q1
  cases rr
  cases w with
  | true =>
    obtain ⟨rfl, rfl⟩ := S.inv0 q2
    refine ⟨e1, ?_, l.fits f1⟩
    have hn : mIfS mc (M.pure .bk) mNx e g = .ok .bk e1 g1 := by unfold mIfS; rw [bind_eq h1]; rfl
    unfold mSeqS; rw [bind_eq hn]; rfl
  | false =>
    have hn : mIfS mc (M.pure .bk) mNx e g = .ok .nx e1 g1 := by unfold mIfS; rw [bind_eq h1]; rfl
    exact OutOk.seq hn (hr e1 g1 o g' f1 q2)
def outB {κ σ τ : Type} (k : σ → S (Out κ τ)) : Out κ σ → S (Out κ τ)
  | .ret x => pure (.ret x)
  | .brk v => pure (.brk v)
  | .ctn v => pure (.ctn v)
  | .nxt v => k v
theorem tb_seqB {a b : M Fl} {sa : S (Out κ τ)} {sb : τ → S (Out κ σ)} {ta : τ → List SS} (ha : TB t a sa tl ta) (hb : ∀ v, TB (ta v) b (sb v) tl tn) : TB t (mSeqS a b) (sa >>= outB sb) tl tn := fun e g o g' f q => by
  obtain ⟨w, g1, q1, q2⟩ := S.inv q
  have h := ha e g w g1 f q1
  cases w with
  | ret x =>
    obtain ⟨ev, e', h1, h2⟩ := h
    obtain ⟨rfl, rfl⟩ := S.inv0 q2
    exact ⟨ev, e', seq_rt h1, h2⟩
  | nxt v =>
    obtain ⟨e1, h1, f1⟩ := h
    exact OutOk.seq h1 (hb v e1 g1 o g' f1 q2)
  | brk v =>
    obtain ⟨e1, h1, f1⟩ := h
    obtain ⟨rfl, rfl⟩ := S.inv0 q2
    exact ⟨e1, by unfold mSeqS; rw [bind_eq h1]; rfl, f1⟩
  | ctn v =>
    obtain ⟨e1, h1, f1⟩ := h
    obtain ⟨rfl, rfl⟩ := S.inv0 q2
    exact ⟨e1, by unfold mSeqS; rw [bind_eq h1]; rfl, f1⟩
def forO {α σ κ : Type} (f : σ → α → S (Out σ σ)) : List α → σ → S (Out κ σ)
  | [], v => pure (.nxt v)
  | x :: xs, v => f v x >>= fun o => match o with
    | .ret r => pure (.ret r)
    | .brk v => pure (.nxt v)
    | .ctn v => forO f xs v
    | .nxt v => forO f xs v
theorem tb_for {α : Type} {p : Pat} {vs : List Nat} {un : PyData → Option α} {se : α → List SS → List SS} {mi : M (List PyData)} {mb : M Fl} {si : S (List PyData)} {tn : σ → List SS} {sb : σ → α → S (Out σ σ)} {n : Nat} (v0 : σ)
    (hi : T EQ t mi si t1) (l0 : LE t1 (tn v0)) (hn : ∀ v, (tn v).length = n) (hp : PatOk p vs un se n) (hb : ∀ v q, TB (se q (tn v)) mb (sb v q) tn tn) :
    TB t (mFor p mi mb) (si >>= fun xs => forO (κ := κ) (fun v x => S.opt (un x) >>= sb v) xs v0) tl tn := fun e g u g' f q => by
  obtain ⟨xs, g1, q1, q2⟩ := S.inv q
  obtain ⟨xs', e1, h1, f1, _, r⟩ := hi e g xs g1 f q1
  cases r
  have main : ∀ (xs : List PyData) (v : σ) (e : Env') (g g' : G), Fits (tn v) e → forO (κ := κ) (fun v x => S.opt (un x) >>= sb v) xs v g = some (u, g') → OutOk tl tn g' u (forD p mb xs e g) := by
    intro xs
    induction xs with
    | nil =>
      intro v e g g' f q
      obtain ⟨rfl, rfl⟩ := S.inv0 q
      exact ⟨e, rfl, f⟩
    | cons x xs ih =>
      intro v e g g' f q
      obtain ⟨w, g1, q1, q2⟩ := S.inv q
      obtain ⟨a, g2, q3, q4⟩ := S.inv q1
      obtain ⟨q5, rfl⟩ := S.invO q3
      obtain ⟨e1, h1, f1, _⟩ := hp.run x a (tn v) e (hn v) q5 f
      have hb := hb v a e1 g w g1 f1 q4
      have step : ∀ {fl : Fl} {e2 : Env'} {g2' : G}, mb e1 g = .ok fl e2 g2' → forD p mb (x :: xs) e g = (match fl with
          | .nx => forD p mb xs
          | .ct => forD p mb xs
          | .bk => mNx
          | .rt v => M.pure (.rt v)) e2 g2' := fun {fl e2 g2'} h2 => by
        conv => lhs; unfold forD
        rw [h1]
        dsimp only
        rw [bind_eq h2]
        all_goals (cases fl <;> rfl)
      cases w with
      | ret x =>
        obtain ⟨ev, e2, h2, h3⟩ := hb
        obtain ⟨rfl, rfl⟩ := S.inv0 q2
        exact ⟨ev, e2, step h2, h3⟩
      | brk v' =>
        obtain ⟨e2, h2, f2⟩ := hb
        obtain ⟨rfl, rfl⟩ := S.inv0 q2
        exact ⟨e2, step h2, f2⟩
      | ctn v' =>
        obtain ⟨e2, h2, f2⟩ := hb
        rw [step h2]
        exact ih v' e2 g1 g' f2 q2
      | nxt v' =>
        obtain ⟨e2, h2, f2⟩ := hb
        rw [step h2]
        exact ih v' e2 g1 g' f2 q2
  have := main xs v0 e1 g1 g' (l0.fits f1) q2
  have z : mFor p mi mb e g = forD p mb xs e1 g1 := by unfold mFor; rw [bind_eq h1]
  rw [z]
  exact this
def whileO {σ κ : Type} (c : σ → S Bool) (b : σ → S (Out σ σ)) : Nat → σ → S (Out κ σ)
  | 0, _ => S.fail
  | n + 1, v => c v >>= fun x => if x then b v >>= fun o => match o with
      | .ret r => pure (.ret r)
      | .brk v => pure (.nxt v)
      | .ctn v => whileO c b n v
      | .nxt v => whileO c b n v
    else pure (.nxt v)
/-! ### defs -/
def FnT (fm : FM) (evs : List EV) (s : S PyData) : Prop := ∀ g x g', s g = some (x, g') → ∃ ev, fm evs g = .ok ev [] g' ∧ HA [] ev x
theorem fn_ok {n : Nat} {bd : M Fl} {evs : List EV} {s : S PyData} (h : TRt t bd s) (hf : Fits t (startE n evs)) : FnT (bodyRun n bd) evs s := fun g x g' q => by
  obtain ⟨ev, e', h1, h2⟩ := h _ g x g' hf q
  refine ⟨ev, ?_, h2⟩
  unfold bodyRun
  rw [h1]
  rcases h2 with rfl | ⟨rfl, _⟩ <;> rfl
theorem fn_nx {n : Nat} {bd : M Fl} {evs : List EV} {s : S σ} {t' : σ → List SS} (h : TF t bd s t') (hf : Fits t (startE n evs)) : FnT (bodyRun n bd) evs (s >>= fun _ => pure .none) := fun g x g' q => by
  obtain ⟨v, g1, q1, q2⟩ := S.inv q
  obtain ⟨rfl, rfl⟩ := S.inv0 q2
  obtain ⟨e', h1, h2⟩ := h _ g v _ hf q1
  refine ⟨.d .none, ?_, .inl rfl⟩
  unfold bodyRun
  rw [h1]
theorem fn_bad {evs : List EV} {fm : FM} : FnT fm evs S.fail := fun g x g' q => by cases q
/-- of a def's promise itself -/
def ofFM (fm : FM) (evs : List EV) : S PyData := fun g => match fm evs g with
  | .ok (.d x) [] g' => some (x, g')
  | .ok (.fr x) [] g' => if isObj x then some (x, g') else none
  | _ => none
theorem fn_of {fm : FM} {evs : List EV} : FnT fm evs (ofFM fm evs) := fun g x g' q => by
  unfold ofFM at q
  split at q
  · rename_i h; cases q; exact ⟨_, h, .inl rfl⟩
  · rename_i h
    split at q
    · rename_i c; cases q; exact ⟨_, h, .inr ⟨rfl, c⟩⟩
    · cases q
  · cases q
def AS (n : Nat) (_ : Env') (evs evs' : List EV) : Prop := evs = evs' ∧ evs.all isArg = true ∧ evs.length = n
theorem te_callG {n : Nat} {fm : FM} {m : M (List EV)} {sa : S (List EV)} {f : List EV → S PyData} (h : T (AS n) t m sa t1) (hf : ∀ evs, FnT fm evs (f evs)) : T HA t (mCall n fm m) (sa >>= f) t1 := fun e g x g' ff q => by
  obtain ⟨evs, g1, q1, q2⟩ := S.inv q
  obtain ⟨evs', e1, h1, f1, k1, rfl, r2, r3⟩ := h e g evs g1 ff q1
  obtain ⟨ev, h2, h3⟩ := hf evs' g1 x g' q2
  exact ⟨ev, e1, mCall_ok h1 r2 r3 h2, f1, k1, h3⟩
theorem tc_nil : T (AS 0) t mNil (pure []) t := fun e g b g' f q => by
  obtain ⟨rfl, rfl⟩ := S.inv0 q
  exact ⟨[], e, rfl, f, .refl, rfl, rfl, rfl⟩
theorem tc_cons {n : Nat} {ma : M EV} {mr : M (List EV)} {a : S PyData} {r : S (List EV)} (ha : T HD t ma a t1) (hr : T (AS n) t1 mr r t2) : T (AS (n + 1)) t (mCons ma mr) (a >>= fun x => r >>= fun es => pure (.d x :: es)) t2 := by
  intro e g z g' f q
  obtain ⟨x, g1, q1, q⟩ := S.inv q
  obtain ⟨y, g2, q2, q⟩ := S.inv q
  obtain ⟨rfl, rfl⟩ := S.inv0 q
  obtain ⟨u, e1, h1, f1, k1, r1⟩ := ha e g x g1 f q1
  obtain ⟨v, e2, h2, f2, k2, rfl, r3, r4⟩ := hr e1 g1 y g2 f1 q2
  cases r1
  exact ⟨_, e2, by unfold mCons; rw [bind_eq h1, bind_eq h2]; rfl, f2, k1.trans k2, rfl, by simpa [isArg] using r3, by simp [r4]⟩
theorem tc_src {n i : Nat} {b : Bool} {mr : M (List EV)} {r : S (List EV)} (h : t[i]? = some (.src b)) (hr : T (AS n) t mr r t2) : T (AS (n + 1)) t (mCons (mArg (mVar i)) mr) (r >>= fun es => pure (.src b :: es)) t2 := by
  intro e g z g' f q
  obtain ⟨y, g2, q2, q⟩ := S.inv q
  obtain ⟨rfl, rfl⟩ := S.inv0 q
  obtain ⟨s, h1, h2⟩ := f.get h
  cases (show s = .src b from h2)
  obtain ⟨v, e2, h3, f2, k2, rfl, r3, r4⟩ := hr e g y g2 f q2
  have hv : mArg (mVar i) e g = .ok (.src b) e g := by
    unfold mArg mVar
    simp only [M.bind, h1]
    rfl
  exact ⟨_, e2, by unfold mCons; rw [bind_eq hv, bind_eq h3]; rfl, f2, k2, rfl, by simpa [isArg] using r3, by simp [r4]⟩
theorem T.eq {α β : Type} {r : Env' → α → β → Prop} {m : M α} {s s' : S β} (h : T r t m s t1) (e : s = s') : T r t m s' t1 := e ▸ h
theorem te_c0 {fm : FM} {f : S PyData} (h : FnT fm [] f) : T HA t (mCall 0 fm mNil) f t :=
  (te_callG (f := fun evs => if evs = [] then f else S.fail) tc_nil fun evs => by
    by_cases c : evs = []
    · subst c; exact h
    · rw [if_neg c]; exact fn_bad).eq (by simp)
end
theorem te_c1 {t t1 : List SS} {fm : FM} {m0 : M EV} {s0 : S PyData} {f : PyData → S PyData} (h : ∀ x0, FnT fm [.d x0] (f x0)) (h0 : T HD t m0 s0 t1) :
    T HA t (mCall 1 fm (mCons m0 mNil)) (s0 >>= fun x0 => f x0) t1 :=
  (te_callG (f := fun evs => match evs with
      | [.d x0] =>  f x0
      | _ => S.fail) (tc_cons h0 tc_nil) fun evs => by
    split
    · exact h _
    · exact fn_bad).eq (by simp)
theorem te_s1 {t t1 : List SS} {fm : FM} {m0 : M EV} {s0 : S PyData} {i : Nat} {b : Bool} {f : PyData → S PyData} (h : ∀ x0, FnT fm [.src b, .d x0] (f x0)) (hs : t[i]? = some (.src b)) (h0 : T HD t m0 s0 t1) :
    T HA t (mCall 2 fm (mCons (mArg (mVar i)) (mCons m0 mNil))) (s0 >>= fun x0 => f x0) t1 :=
  (te_callG (f := fun evs => match evs with
      | [.src b2, .d x0] => if b2 = b then f x0 else S.fail
      | _ => S.fail) (tc_src hs (tc_cons h0 tc_nil)) fun evs => by
    split
    · split
      · rename_i c; subst c; exact h _
      · exact fn_bad
    · exact fn_bad).eq (by simp)
theorem te_c2 {t t1 t2 : List SS} {fm : FM} {m0 m1 : M EV} {s0 s1 : S PyData} {f : PyData → PyData → S PyData} (h : ∀ x0 x1, FnT fm [.d x0, .d x1] (f x0 x1)) (h0 : T HD t m0 s0 t1) (h1 : T HD t1 m1 s1 t2) :
    T HA t (mCall 2 fm (mCons m0 (mCons m1 mNil))) (s0 >>= fun x0 => s1 >>= fun x1 => f x0 x1) t2 :=
  (te_callG (f := fun evs => match evs with
      | [.d x0, .d x1] =>  f x0 x1
      | _ => S.fail) (tc_cons h0 (tc_cons h1 tc_nil)) fun evs => by
    split
    · exact h _ _
    · exact fn_bad).eq (by simp)
theorem te_s2 {t t1 t2 : List SS} {fm : FM} {m0 m1 : M EV} {s0 s1 : S PyData} {i : Nat} {b : Bool} {f : PyData → PyData → S PyData} (h : ∀ x0 x1, FnT fm [.src b, .d x0, .d x1] (f x0 x1)) (hs : t[i]? = some (.src b)) (h0 : T HD t m0 s0 t1) (h1 : T HD t1 m1 s1 t2) :
    T HA t (mCall 3 fm (mCons (mArg (mVar i)) (mCons m0 (mCons m1 mNil)))) (s0 >>= fun x0 => s1 >>= fun x1 => f x0 x1) t2 :=
  (te_callG (f := fun evs => match evs with
      | [.src b2, .d x0, .d x1] => if b2 = b then f x0 x1 else S.fail
      | _ => S.fail) (tc_src hs (tc_cons h0 (tc_cons h1 tc_nil))) fun evs => by
    split
    · split
      · rename_i c; subst c; exact h _ _
      · exact fn_bad
    · exact fn_bad).eq (by simp)
theorem te_c3 {t t1 t2 t3 : List SS} {fm : FM} {m0 m1 m2 : M EV} {s0 s1 s2 : S PyData} {f : PyData → PyData → PyData → S PyData} (h : ∀ x0 x1 x2, FnT fm [.d x0, .d x1, .d x2] (f x0 x1 x2)) (h0 : T HD t m0 s0 t1) (h1 : T HD t1 m1 s1 t2) (h2 : T HD t2 m2 s2 t3) :
    T HA t (mCall 3 fm (mCons m0 (mCons m1 (mCons m2 mNil)))) (s0 >>= fun x0 => s1 >>= fun x1 => s2 >>= fun x2 => f x0 x1 x2) t3 :=
  (te_callG (f := fun evs => match evs with
      | [.d x0, .d x1, .d x2] =>  f x0 x1 x2
      | _ => S.fail) (tc_cons h0 (tc_cons h1 (tc_cons h2 tc_nil))) fun evs => by
    split
    · exact h _ _ _
    · exact fn_bad).eq (by simp)
theorem te_s3 {t t1 t2 t3 : List SS} {fm : FM} {m0 m1 m2 : M EV} {s0 s1 s2 : S PyData} {i : Nat} {b : Bool} {f : PyData → PyData → PyData → S PyData} (h : ∀ x0 x1 x2, FnT fm [.src b, .d x0, .d x1, .d x2] (f x0 x1 x2)) (hs : t[i]? = some (.src b)) (h0 : T HD t m0 s0 t1) (h1 : T HD t1 m1 s1 t2) (h2 : T HD t2 m2 s2 t3) :
    T HA t (mCall 4 fm (mCons (mArg (mVar i)) (mCons m0 (mCons m1 (mCons m2 mNil))))) (s0 >>= fun x0 => s1 >>= fun x1 => s2 >>= fun x2 => f x0 x1 x2) t3 :=
  (te_callG (f := fun evs => match evs with
      | [.src b2, .d x0, .d x1, .d x2] => if b2 = b then f x0 x1 x2 else S.fail
      | _ => S.fail) (tc_src hs (tc_cons h0 (tc_cons h1 (tc_cons h2 tc_nil)))) fun evs => by
    split
    · split
      · rename_i c; subst c; exact h _ _ _
      · exact fn_bad
    · exact fn_bad).eq (by simp)
theorem te_c4 {t t1 t2 t3 t4 : List SS} {fm : FM} {m0 m1 m2 m3 : M EV} {s0 s1 s2 s3 : S PyData} {f : PyData → PyData → PyData → PyData → S PyData} (h : ∀ x0 x1 x2 x3, FnT fm [.d x0, .d x1, .d x2, .d x3] (f x0 x1 x2 x3)) (h0 : T HD t m0 s0 t1) (h1 : T HD t1 m1 s1 t2) (h2 : T HD t2 m2 s2 t3) (h3 : T HD t3 m3 s3 t4) :
    T HA t (mCall 4 fm (mCons m0 (mCons m1 (mCons m2 (mCons m3 mNil))))) (s0 >>= fun x0 => s1 >>= fun x1 => s2 >>= fun x2 => s3 >>= fun x3 => f x0 x1 x2 x3) t4 :=
  (te_callG (f := fun evs => match evs with
      | [.d x0, .d x1, .d x2, .d x3] =>  f x0 x1 x2 x3
      | _ => S.fail) (tc_cons h0 (tc_cons h1 (tc_cons h2 (tc_cons h3 tc_nil)))) fun evs => by
    split
    · exact h _ _ _ _
    · exact fn_bad).eq (by simp)
theorem te_s4 {t t1 t2 t3 t4 : List SS} {fm : FM} {m0 m1 m2 m3 : M EV} {s0 s1 s2 s3 : S PyData} {i : Nat} {b : Bool} {f : PyData → PyData → PyData → PyData → S PyData} (h : ∀ x0 x1 x2 x3, FnT fm [.src b, .d x0, .d x1, .d x2, .d x3] (f x0 x1 x2 x3)) (hs : t[i]? = some (.src b)) (h0 : T HD t m0 s0 t1) (h1 : T HD t1 m1 s1 t2) (h2 : T HD t2 m2 s2 t3) (h3 : T HD t3 m3 s3 t4) :
    T HA t (mCall 5 fm (mCons (mArg (mVar i)) (mCons m0 (mCons m1 (mCons m2 (mCons m3 mNil)))))) (s0 >>= fun x0 => s1 >>= fun x1 => s2 >>= fun x2 => s3 >>= fun x3 => f x0 x1 x2 x3) t4 :=
  (te_callG (f := fun evs => match evs with
      | [.src b2, .d x0, .d x1, .d x2, .d x3] => if b2 = b then f x0 x1 x2 x3 else S.fail
      | _ => S.fail) (tc_src hs (tc_cons h0 (tc_cons h1 (tc_cons h2 (tc_cons h3 tc_nil))))) fun evs => by
    split
    · split
      · rename_i c; subst c; exact h _ _ _ _
      · exact fn_bad
    · exact fn_bad).eq (by simp)
theorem te_c5 {t t1 t2 t3 t4 t5 : List SS} {fm : FM} {m0 m1 m2 m3 m4 : M EV} {s0 s1 s2 s3 s4 : S PyData} {f : PyData → PyData → PyData → PyData → PyData → S PyData} (h : ∀ x0 x1 x2 x3 x4, FnT fm [.d x0, .d x1, .d x2, .d x3, .d x4] (f x0 x1 x2 x3 x4)) (h0 : T HD t m0 s0 t1) (h1 : T HD t1 m1 s1 t2) (h2 : T HD t2 m2 s2 t3) (h3 : T HD t3 m3 s3 t4) (h4 : T HD t4 m4 s4 t5) :
    T HA t (mCall 5 fm (mCons m0 (mCons m1 (mCons m2 (mCons m3 (mCons m4 mNil)))))) (s0 >>= fun x0 => s1 >>= fun x1 => s2 >>= fun x2 => s3 >>= fun x3 => s4 >>= fun x4 => f x0 x1 x2 x3 x4) t5 :=
  (te_callG (f := fun evs => match evs with
      | [.d x0, .d x1, .d x2, .d x3, .d x4] =>  f x0 x1 x2 x3 x4
      | _ => S.fail) (tc_cons h0 (tc_cons h1 (tc_cons h2 (tc_cons h3 (tc_cons h4 tc_nil))))) fun evs => by
    split
    · exact h _ _ _ _ _
    · exact fn_bad).eq (by simp)
theorem te_s5 {t t1 t2 t3 t4 t5 : List SS} {fm : FM} {m0 m1 m2 m3 m4 : M EV} {s0 s1 s2 s3 s4 : S PyData} {i : Nat} {b : Bool} {f : PyData → PyData → PyData → PyData → PyData → S PyData} (h : ∀ x0 x1 x2 x3 x4, FnT fm [.src b, .d x0, .d x1, .d x2, .d x3, .d x4] (f x0 x1 x2 x3 x4)) (hs : t[i]? = some (.src b)) (h0 : T HD t m0 s0 t1) (h1 : T HD t1 m1 s1 t2) (h2 : T HD t2 m2 s2 t3) (h3 : T HD t3 m3 s3 t4) (h4 : T HD t4 m4 s4 t5) :
    T HA t (mCall 6 fm (mCons (mArg (mVar i)) (mCons m0 (mCons m1 (mCons m2 (mCons m3 (mCons m4 mNil))))))) (s0 >>= fun x0 => s1 >>= fun x1 => s2 >>= fun x2 => s3 >>= fun x3 => s4 >>= fun x4 => f x0 x1 x2 x3 x4) t5 :=
  (te_callG (f := fun evs => match evs with
      | [.src b2, .d x0, .d x1, .d x2, .d x3, .d x4] => if b2 = b then f x0 x1 x2 x3 x4 else S.fail
      | _ => S.fail) (tc_src hs (tc_cons h0 (tc_cons h1 (tc_cons h2 (tc_cons h3 (tc_cons h4 tc_nil)))))) fun evs => by
    split
    · split
      · rename_i c; subst c; exact h _ _ _ _ _
      · exact fn_bad
    · exact fn_bad).eq (by simp)
theorem te_s0 {t : List SS} {fm : FM} {i : Nat} {b : Bool} {f : S PyData} (h : FnT fm [.src b] f) (hs : t[i]? = some (.src b)) : T HA t (mCall 1 fm (mCons (mArg (mVar i)) mNil)) f t :=
  (te_callG (f := fun evs => match evs with
      | [.src b2] => if b2 = b then f else S.fail
      | _ => S.fail) (tc_src hs tc_nil) fun evs => by
    split
    · split
      · rename_i c; subst c; exact h
      · exact fn_bad
    · exact fn_bad).eq (by simp)
end DL
/-! functional mirrors: what each operation gives is an object just where it is new; helpers for the printed texts -/
namespace DL
open PySem L2
theorem LE.nil : LE [] [] := trivial
theorem LE.cons {a b : SS} {as bs : List SS} (h : a.le b) (k : LE as bs) : LE (a :: as) (b :: bs) := ⟨h, k⟩
theorem Fits.nil : Fits [] [] := trivial
theorem Fits.cons {a : SS} {x : Slot} {as : List SS} {xs : Env'} (h : a.ok x) (k : Fits as xs) : Fits (a :: as) (x :: xs) := ⟨h, k⟩
theorem SS.okD {x : PyData} : (SS.d x).ok (.d x) := rfl
theorem SS.okS {b : Bool} : (SS.src b).ok (.src b) := rfl
theorem SS.okC {ns : List Int} : (SS.scr ns).ok (.scr ns) := rfl
theorem SS.okU : SS.jk.ok .un := nofun
theorem PatOk.mono {α : Type} {p : Pat} {vs vs' : List Nat} {un : PyData → Option α} {se : α → List SS → List SS} {n : Nat} (h : PatOk p vs un se n) (k : ∀ j, j ∈ vs → j ∈ vs') : PatOk p vs' un se n :=
  ⟨fun x q t e h1 h2 h3 => let ⟨e', a, b, c⟩ := h.run x q t e h1 h2 h3; ⟨e', a, b, fun j hj => c j fun z => hj (k j z)⟩⟩
theorem TF.to {σ : Type} {t : List SS} {m : M Fl} {s : S σ} {ta tb : σ → List SS} (h : TF t m s ta) (e : ∀ v, ta v = tb v) : TF t m s tb := by
  have : ta = tb := funext e
  exact this ▸ h
def outW {κ σ τ : Type} (f : σ → τ) : Out κ σ → S (Out κ τ)
  | .ret x => pure (.ret x)
  | .brk v => pure (.brk v)
  | .ctn v => pure (.ctn v)
  | .nxt v => pure (.nxt (f v))
theorem tb_weak {κ σ τ : Type} {t : List SS} {m : M Fl} {s : S (Out κ σ)} {tl : κ → List SS} {tn : σ → List SS} {tn' : τ → List SS} (f : σ → τ) (h : TB t m s tl tn) (l : ∀ v, LE (tn v) (tn' (f v))) : TB t m (s >>= outW f) tl tn' := fun e g o g' hf q => by
  obtain ⟨w, g1, q1, q2⟩ := S.inv q
  have h := h e g w g1 hf q1
  cases w with
  | ret x => obtain ⟨rfl, rfl⟩ := S.inv0 q2; exact h
  | brk v => obtain ⟨rfl, rfl⟩ := S.inv0 q2; exact h
  | ctn v => obtain ⟨rfl, rfl⟩ := S.inv0 q2; exact h
  | nxt v => obtain ⟨rfl, rfl⟩ := S.inv0 q2; exact let ⟨e', h1, h2⟩ := h; ⟨e', h1, (l v).fits h2⟩
theorem tb_while {κ σ : Type} {t : List SS} {mt : M Bool} {mb : M Fl} {tl : κ → List SS} {tn : σ → List SS} {c : σ → S Bool} {b : σ → S (Out σ σ)} {k : Nat} (v0 : σ) (l0 : LE t (tn v0)) (hc : ∀ v, T EQ (tn v) mt (c v) (tn v)) (hb : ∀ v, TB (tn v) mb (b v) tn tn) :
    TB t (whileD mt mb k) (whileO (κ := κ) c b k v0) tl tn := fun e g u g' f q => by
  have main : ∀ (k : Nat) (v : σ) (e : Env') (g g' : G), Fits (tn v) e → whileO (κ := κ) c b k v g = some (u, g') → OutOk tl tn g' u (whileD mt mb k e g) := by
    intro k
    induction k with
    | zero => intro v e g g' f q; cases q
    | succ k ih =>
      intro v e g g' f q
      obtain ⟨x, g1, q1, q2⟩ := S.inv q
      obtain ⟨x', e1, h1, f1, _, r⟩ := hc v e g x g1 f q1
      cases r
      cases x with
      | false =>
        obtain ⟨rfl, rfl⟩ := S.inv0 (a := (Out.nxt v : Out κ σ)) q2
        refine ⟨e1, ?_, f1⟩
        unfold whileD
        rw [bind_eq h1, if_neg Bool.false_ne_true]
        rfl
      | true =>
        obtain ⟨w, g2, q3, q4⟩ := S.inv (m := b v) (f := fun o => match o with
          | .ret r => (pure (.ret r) : S (Out κ σ))
          | .brk v => pure (.nxt v)
          | .ctn v => whileO c b k v
          | .nxt v => whileO c b k v) q2
        have hb := hb v e1 g1 w g2 f1 q3
        have step : ∀ {fl : Fl} {e2 : Env'} {g2' : G}, mb e1 g1 = .ok fl e2 g2' → whileD mt mb (k + 1) e g = (match fl with
            | .nx => whileD mt mb k
            | .ct => whileD mt mb k
            | .bk => mNx
            | .rt v => M.pure (.rt v)) e2 g2' := fun {fl e2 g2'} h2 => by
          conv => lhs; unfold whileD
          rw [bind_eq h1, if_pos rfl, bind_eq h2]
          all_goals (cases fl <;> rfl)
        cases w with
        | ret x =>
          obtain ⟨ev, e2, h2, h3⟩ := hb
          obtain ⟨rfl, rfl⟩ := S.inv0 q4
          exact ⟨ev, e2, step h2, h3⟩
        | brk v' =>
          obtain ⟨e2, h2, f2⟩ := hb
          obtain ⟨rfl, rfl⟩ := S.inv0 q4
          exact ⟨e2, step h2, f2⟩
        | ctn v' =>
          obtain ⟨e2, h2, f2⟩ := hb
          rw [step h2]
          exact ih v' e2 g2 g' f2 q4
        | nxt v' =>
          obtain ⟨e2, h2, f2⟩ := hb
          rw [step h2]
          exact ih v' e2 g2 g' f2 q4
  exact main k v0 e g g' (l0.fits f) q
def putS (x k d : PyData) : S PyData := match k, x with
  | .int k, .list ds => match ixN ds.length k with
    | some n => pure (.list (ds.set n d))
    | none => S.fail
  | _, _ => S.fail
theorem tf_putAt {t t1 t2 : List SS} {j : Nat} {x : PyData} {mv mi : M PyData} {sv si : S PyData} (hv : T EQ t mv sv t1) (h0 : t1[j]? = some (.ow x)) (hi : T EQ t1 mi si t2) (h2 : t2[j]? = some (.ow x)) :
    TF t (mPutAt j mv mi) (sv >>= fun d => si >>= fun k => putS x k d) fun y => t2.set j (.ow y) := fun e g y g' f q => by
  obtain ⟨d, g1, q1, q2⟩ := S.inv q
  obtain ⟨k, g2, q3, q4⟩ := S.inv q2
  obtain ⟨d', e1, h3, f1, _, rfl⟩ := hv e g d _ f q1
  obtain ⟨k', e2, h4, f2, _, rfl⟩ := hi e1 g1 k _ f1 q3
  cases k' <;> first | (cases q4; done) | skip
  cases x <;> first | (cases q4; done) | skip
  rename_i k ds
  have q4 : (match ixN ds.length k with
    | some n => (pure (.list (ds.set n d')) : S PyData)
    | none => S.fail) g2 = some (y, g') := q4
  cases c : ixN ds.length k with
  | none => rw [c] at q4; cases q4
  | some n =>
    rw [c] at q4
    obtain ⟨rfl, rfl⟩ := S.inv0 q4
    refine ⟨e2.set j (.own (.list (ds.set n d'))), ?_, f2.set j (ow_ok rfl)⟩
    unfold mPutAt
    rw [bind_eq h3]
    rw [if_pos (own_at (ow_get f1 h0)).1]
    rw [bind_eq h4]
    simp only [(own_at (ow_get f2 h2)).2, c]
/-! the law: its source, its end -/
def srcS (fm : FM) (ns : List Int) : S Unit := fun g => match fm [.scr ns] g with
  | .ok (.src false) [] g' => some ((), g')
  | _ => none
theorem tf_source {t : List SS} {i k : Nat} {ns : List Int} {fm : FM} (h : t[i]? = some (.scr ns)) : TF t (mSet k (mArg (mCall 1 fm (mCons (mArg (mVar i)) mNil)))) (srcS fm ns) fun _ => t.set k (.src false) := fun e g v g' f q => by
  obtain ⟨s, h1, h2⟩ := f.get h
  cases (show s = .scr ns from h2)
  unfold srcS at q
  split at q
  · rename_i g1 hq
    cases q
    have hv : mArg (mVar i) e g = .ok (.scr ns) e g := by
      unfold mArg mVar
      simp only [M.bind, h1]
      rfl
    have ha : mCons (mArg (mVar i)) mNil e g = .ok [.scr ns] e g := by
      unfold mCons
      rw [bind_eq hv]
      rfl
    have hc : mArg (mCall 1 fm (mCons (mArg (mVar i)) mNil)) e g = .ok (.src false) e g' := by
      have hm := mCall_ok (n := 1) ha rfl rfl hq
      show M.bind (mCall 1 fm (mCons (mArg (mVar i)) mNil)) _ e g = _
      rw [bind_eq hm]
      rfl
    exact ⟨_, by unfold mSet; rw [bind_eq hc]; rfl, f.set k rfl⟩
  · cases q
theorem law_of_T {fm : FM} {ns : List Int} {s : S PyData} (h : FnT fm [.scr ns] s) (k : ∃ g', s none = some (.bool true, g')) : WpF (fm [.scr ns] none) fun ev _ => ev = .d (.bool true) := by
  obtain ⟨g', k⟩ := k
  obtain ⟨ev, h1, h2⟩ := h none _ g' k
  refine WpF.of h1 ?_
  rcases h2 with h2 | ⟨_, h2⟩
  · exact h2
  · cases h2
/-! which operations give objects -/
theorem wf_d {o : Option RV} {r : RV} (h : o = some r) (k : ∀ x, o ≠ some (.fr x)) : r.wf := by
  cases r with
  | d x => trivial
  | fr x => exact absurd h (k x)
instance : Wf2 pyAdd := ⟨fun x y r h => by
  unfold pyAdd at h
  split at h <;> first | (cases h; done) | skip
  · cases h; trivial
  all_goals
    split at h
    · cases h; first | trivial | rfl
    · cases h⟩
instance : Wf2 pySub := ⟨fun x y r h => by unfold pySub at h; split at h <;> cases h; trivial⟩
instance : Wf2 pyMul := ⟨fun x y r h => by unfold pyMul at h; split at h <;> first | (split at h <;> cases h <;> first | trivial | rfl) | cases h⟩
instance : Wf2 pyFloorDiv := ⟨fun x y r h => by unfold pyFloorDiv at h; split at h <;> first | (split at h <;> cases h; trivial) | cases h⟩
instance : Wf2 pyMod := ⟨fun x y r h => by unfold pyMod at h; split at h <;> first | (split at h <;> cases h; trivial) | cases h⟩
instance : Wf2 pyPow := ⟨fun x y r h => by unfold pyPow at h; split at h <;> first | (split at h <;> cases h; trivial) | cases h⟩
instance : Wf2 pyEq := ⟨fun x y r h => by unfold pyEq at h; split at h <;> cases h; trivial⟩
instance : Wf2 pyNe := ⟨fun x y r h => by unfold pyNe at h; split at h <;> cases h; trivial⟩
instance {p : Int → Int → Bool} {q : PyData → PyData → Bool} : Wf2 (pyCmp p q) := ⟨fun x y r h => by unfold pyCmp at h; split at h <;> first | (cases h; trivial) | (split at h <;> cases h; trivial) | cases h⟩
instance : Wf2 pyLt := inferInstanceAs (Wf2 (pyCmp _ _))
instance : Wf2 pyLe := inferInstanceAs (Wf2 (pyCmp _ _))
instance : Wf2 pyGt := inferInstanceAs (Wf2 (pyCmp _ _))
instance : Wf2 pyGe := inferInstanceAs (Wf2 (pyCmp _ _))
instance {b : Bool} : Wf2 (pyIs b) := ⟨fun x y r h => by unfold pyIs at h; split at h <;> first | (split at h <;> cases h <;> trivial) | cases h⟩
instance {b : Bool} : Wf2 (pyIn b) := ⟨fun x y r h => by unfold pyIn at h; split at h <;> first | (split at h <;> cases h; trivial) | (split at h <;> cases h <;> trivial) | cases h⟩
instance : Wf2 pyIx := ⟨fun x y r h => by
  unfold pyIx at h
  split at h
  · rename_i ds i
    cases q : atI ds i with
    | none => rw [q] at h; cases h
    | some z => rw [q] at h; cases h; trivial
  · rename_i ds i
    cases q : atI ds i with
    | none => rw [q] at h; cases h
    | some z => rw [q] at h; cases h; trivial
  · rename_i z i
    split at h
    · cases q : atI z.cps.toList i with
      | none => rw [q] at h; cases h
      | some z => rw [q] at h; cases h; trivial
    · cases h
  · cases h⟩
instance : Wf1 pyNeg := ⟨fun x r h => by unfold pyNeg at h; split at h <;> cases h; trivial⟩
instance : Wf1 pyRev := ⟨fun x r h => by unfold pyRev at h; split at h <;> cases h <;> first | trivial | rfl⟩
instance : WfL DL.pyLen := ⟨fun x r h => by unfold DL.pyLen at h; split at h <;> first | (cases h; trivial) | (cases h; done) | (split at h <;> cases h; trivial)⟩
instance : WfL pyGcd := ⟨fun x r h => by unfold pyGcd at h; split at h <;> cases h; trivial⟩
instance : WfL pyAbs := ⟨fun x r h => by unfold pyAbs at h; split at h <;> cases h; trivial⟩
instance : WfL pyInt := ⟨fun x r h => by unfold pyInt at h; split at h <;> cases h <;> trivial⟩
instance : WfL pyBool := ⟨fun x r h => by unfold pyBool at h; split at h <;> cases h <;> trivial⟩
instance : WfL pyMax2 := ⟨fun x r h => by unfold pyMax2 at h; split at h <;> cases h; trivial⟩
instance : WfL pyMin2 := ⟨fun x r h => by unfold pyMin2 at h; split at h <;> cases h; trivial⟩
instance : WfL pyListOf := ⟨fun x r h => by unfold pyListOf at h; split at h <;> cases h <;> rfl⟩
instance : WfL pyTupOf := ⟨fun x r h => by unfold pyTupOf at h; split at h <;> cases h <;> trivial⟩
theorem wf_map {α : Type} {o : Option α} {f : α → PyData} {r : RV} (h : (o.map fun a => RV.d (f a)) = some r) : r.wf := by
  cases o with
  | none => cases h
  | some a => cases h; trivial
instance : WfL pyAll := ⟨fun x r h => by unfold pyAll at h; split at h <;> first | exact wf_map h | cases h⟩
instance : WfL pyAny := ⟨fun x r h => by unfold pyAny at h; split at h <;> first | exact wf_map h | cases h⟩
instance : WfL pySum := ⟨fun x r h => by unfold pySum at h; split at h <;> first | exact wf_map h | cases h⟩
instance : WfL pyMax := ⟨fun x r h => by unfold pyMax at h; split at h <;> first | (split at h <;> first | exact wf_map h | cases h) | cases h⟩
instance : WfL pyMin := ⟨fun x r h => by unfold pyMin at h; split at h <;> first | (split at h <;> first | exact wf_map h | cases h) | cases h⟩
instance : WfL pySorted := ⟨fun x r h => by unfold pySorted at h; split at h <;> first | (split at h <;> cases h; rfl) | cases h⟩
theorem nw_d {x : PyData} (h : isObj x = false) : (isObj (RV.d x).val = true → RV.d x = .fr (RV.d x).val) ∧ (isObj (RV.d x).val = false → RV.d x = .d (RV.d x).val) := ⟨fun z => (by rw [show (RV.d x).val = x from rfl, h] at z; cases z), fun _ => rfl⟩
theorem nw_f {x : PyData} (h : isObj x = true) : (isObj (RV.fr x).val = true → RV.fr x = .fr (RV.fr x).val) ∧ (isObj (RV.fr x).val = false → RV.fr x = .d (RV.fr x).val) := ⟨fun _ => rfl, fun z => (by rw [show (RV.fr x).val = x from rfl, h] at z; cases z)⟩
instance : New2 pyAdd := ⟨fun x y r h => by unfold pyAdd at h; (repeat' split at h) <;> cases h <;> first | exact nw_d rfl | exact nw_f rfl⟩
instance : New2 pySub := ⟨fun x y r h => by unfold pySub at h; (repeat' split at h) <;> cases h <;> first | exact nw_d rfl | exact nw_f rfl⟩
instance : New2 pyMul := ⟨fun x y r h => by unfold pyMul at h; (repeat' split at h) <;> cases h <;> first | exact nw_d rfl | exact nw_f rfl⟩
instance : New2 pyFloorDiv := ⟨fun x y r h => by unfold pyFloorDiv at h; (repeat' split at h) <;> cases h <;> first | exact nw_d rfl | exact nw_f rfl⟩
instance : New2 pyMod := ⟨fun x y r h => by unfold pyMod at h; (repeat' split at h) <;> cases h <;> first | exact nw_d rfl | exact nw_f rfl⟩
instance : New2 pyPow := ⟨fun x y r h => by unfold pyPow at h; (repeat' split at h) <;> cases h <;> first | exact nw_d rfl | exact nw_f rfl⟩
instance : New2 pyEq := ⟨fun x y r h => by unfold pyEq at h; (repeat' split at h) <;> cases h <;> first | exact nw_d rfl | exact nw_f rfl⟩
instance : New2 pyNe := ⟨fun x y r h => by unfold pyNe at h; (repeat' split at h) <;> cases h <;> first | exact nw_d rfl | exact nw_f rfl⟩
instance {p : Int → Int → Bool} {q : PyData → PyData → Bool} : New2 (pyCmp p q) := ⟨fun x y r h => by unfold pyCmp at h; (repeat' split at h) <;> cases h <;> first | exact nw_d rfl | exact nw_f rfl⟩
instance {b : Bool} : New2 (pyIs b) := ⟨fun x y r h => by unfold pyIs at h; (repeat' split at h) <;> cases h <;> first | exact nw_d rfl | exact nw_f rfl⟩
instance {b : Bool} : New2 (pyIn b) := ⟨fun x y r h => by unfold pyIn at h; (repeat' split at h) <;> cases h <;> first | exact nw_d rfl | exact nw_f rfl⟩
instance : New2 pyLt := inferInstanceAs (New2 (pyCmp _ _))
instance : New2 pyLe := inferInstanceAs (New2 (pyCmp _ _))
instance : New2 pyGt := inferInstanceAs (New2 (pyCmp _ _))
instance : New2 pyGe := inferInstanceAs (New2 (pyCmp _ _))
instance : New1 pyNeg := ⟨fun x r h => by unfold pyNeg at h; (repeat' split at h) <;> cases h <;> first | exact nw_d rfl | exact nw_f rfl⟩
instance : New1 pyRev := ⟨fun x r h => by unfold pyRev at h; (repeat' split at h) <;> cases h <;> first | exact nw_d rfl | exact nw_f rfl⟩
theorem nw_map {α : Type} {o : Option α} {f : α → PyData} {r : RV} (k : ∀ a, isObj (f a) = false) (h : (o.map fun a => RV.d (f a)) = some r) : (isObj r.val = true → r = .fr r.val) ∧ (isObj r.val = false → r = .d r.val) := by
  cases o with
  | none => cases h
  | some a => cases h; exact nw_d (k a)
instance : NewL DL.pyLen := ⟨fun x r h => by unfold DL.pyLen at h; (repeat' split at h) <;> first | (cases h; done) | exact nw_map (fun _ => rfl) h | (cases h <;> first | exact nw_d rfl | exact nw_f rfl)⟩
instance : NewL pyAbs := ⟨fun x r h => by unfold pyAbs at h; (repeat' split at h) <;> first | (cases h; done) | exact nw_map (fun _ => rfl) h | (cases h <;> first | exact nw_d rfl | exact nw_f rfl)⟩
instance : NewL pyInt := ⟨fun x r h => by unfold pyInt at h; (repeat' split at h) <;> first | (cases h; done) | exact nw_map (fun _ => rfl) h | (cases h <;> first | exact nw_d rfl | exact nw_f rfl)⟩
instance : NewL pyBool := ⟨fun x r h => by unfold pyBool at h; (repeat' split at h) <;> first | (cases h; done) | exact nw_map (fun _ => rfl) h | (cases h <;> first | exact nw_d rfl | exact nw_f rfl)⟩
instance : NewL pyMax2 := ⟨fun x r h => by unfold pyMax2 at h; (repeat' split at h) <;> first | (cases h; done) | exact nw_map (fun _ => rfl) h | (cases h <;> first | exact nw_d rfl | exact nw_f rfl)⟩
instance : NewL pyMin2 := ⟨fun x r h => by unfold pyMin2 at h; (repeat' split at h) <;> first | (cases h; done) | exact nw_map (fun _ => rfl) h | (cases h <;> first | exact nw_d rfl | exact nw_f rfl)⟩
instance : NewL pyListOf := ⟨fun x r h => by unfold pyListOf at h; (repeat' split at h) <;> first | (cases h; done) | exact nw_map (fun _ => rfl) h | (cases h <;> first | exact nw_d rfl | exact nw_f rfl)⟩
instance : NewL pyTupOf := ⟨fun x r h => by unfold pyTupOf at h; (repeat' split at h) <;> first | (cases h; done) | exact nw_map (fun _ => rfl) h | (cases h <;> first | exact nw_d rfl | exact nw_f rfl)⟩
instance : NewL pyAll := ⟨fun x r h => by unfold pyAll at h; (repeat' split at h) <;> first | (cases h; done) | exact nw_map (fun _ => rfl) h | (cases h <;> first | exact nw_d rfl | exact nw_f rfl)⟩
instance : NewL pyAny := ⟨fun x r h => by unfold pyAny at h; (repeat' split at h) <;> first | (cases h; done) | exact nw_map (fun _ => rfl) h | (cases h <;> first | exact nw_d rfl | exact nw_f rfl)⟩
instance : NewL pySum := ⟨fun x r h => by unfold pySum at h; (repeat' split at h) <;> first | (cases h; done) | exact nw_map (fun _ => rfl) h | (cases h <;> first | exact nw_d rfl | exact nw_f rfl)⟩
instance : NewL pyMax := ⟨fun x r h => by unfold pyMax at h; (repeat' split at h) <;> first | (cases h; done) | exact nw_map (fun _ => rfl) h | (cases h <;> first | exact nw_d rfl | exact nw_f rfl)⟩
instance : NewL pyMin := ⟨fun x r h => by unfold pyMin at h; (repeat' split at h) <;> first | (cases h; done) | exact nw_map (fun _ => rfl) h | (cases h <;> first | exact nw_d rfl | exact nw_f rfl)⟩
instance : NewL pySorted := ⟨fun x r h => by unfold pySorted at h; (repeat' split at h) <;> first | (cases h; done) | exact nw_map (fun _ => rfl) h | (cases h <;> first | exact nw_d rfl | exact nw_f rfl)⟩
instance : NewL pyGcd := ⟨fun x r h => by unfold pyGcd at h; (repeat' split at h) <;> first | (cases h; done) | exact nw_map (fun _ => rfl) h | (cases h <;> first | exact nw_d rfl | exact nw_f rfl)⟩
end DL
/-! functional mirrors, evaluated: what simp knows -/
namespace DL
open PySem L2
@[simp] theorem opt_some {α : Type} (a : α) : S.opt (some a) = pure a := rfl
@[simp] theorem opt_none {α : Type} : S.opt (none : Option α) = S.fail := rfl
@[simp] theorem fail_bind {α β : Type} (f : α → S β) : (S.fail >>= f) = S.fail := rfl
@[simp] theorem sOp_d (x : PyData) : sOp (some (.d x)) = pure x := rfl
@[simp] theorem sOp_fr (x : PyData) : sOp (some (.fr x)) = pure x := rfl
@[simp] theorem sOp_none : sOp none = S.fail := rfl
@[simp] theorem sBin_p (g : PyData → PyData → Option RV) (a b : PyData) : sBin g (pure a) (pure b) = sOp (g a b) := rfl
@[simp] theorem sUn_p (g : PyData → Option RV) (a : PyData) : sUn g (pure a) = sOp (g a) := rfl
@[simp] theorem boolS_b (b : Bool) : boolS (.bool b) = pure b := rfl
@[simp] theorem sBool_p (b : Bool) : sBool (pure (.bool b)) = pure b := rfl
@[simp] theorem sAndT_p (a : Bool) (b : S Bool) : sAndT (pure a) b = if a then b else pure false := rfl
@[simp] theorem sOrT_p (a : Bool) (b : S Bool) : sOrT (pure a) b = if a then pure true else b := rfl
@[simp] theorem sNotT_p (a : Bool) : sNotT (pure a) = pure (!a) := rfl
@[simp] theorem sAndV_p (a : Bool) (b : S PyData) : sAndV (pure (.bool a)) b = if a then b else pure (.bool false) := rfl
@[simp] theorem sOrV_p (a : Bool) (b : S PyData) : sOrV (pure (.bool a)) b = if a then pure (.bool true) else b := rfl
@[simp] theorem sNotV_p (a : Bool) : sNotV (pure (.bool a)) = pure (.bool (!a)) := rfl
@[simp] theorem sIf_p {α : Type} (c : Bool) (a b : S α) : sIf (pure c) a b = if c then a else b := rfl
@[simp] theorem sNil_p : sNil = pure [] := rfl
@[simp] theorem sCons_p (a : PyData) (r : List PyData) : sCons (pure a) (pure r) = pure (a :: r) := rfl
@[simp] theorem sStar_l (a : List PyData) (r : List PyData) : sStar (pure (.list a)) (pure r) = pure (a ++ r) := rfl
@[simp] theorem sStar_t (a : List PyData) (r : List PyData) : sStar (pure (.tuple a)) (pure r) = pure (a ++ r) := rfl
@[simp] theorem sTup_p (ds : List PyData) : sTup (pure ds) = sSz .tuple ds := rfl
@[simp] theorem sLst_p (ds : List PyData) : sLst (pure ds) = sSz .list ds := rfl
theorem sSz_eq {α : Type} (f : List PyData → α) {ds : List PyData} (h : ds.length ≤ 16777216) : sSz f ds = pure (f ds) := by
  unfold sSz
  rw [if_pos (by rw [sizeLine_eq]; exact h)]
@[simp] theorem sSz_nil {α : Type} (f : List PyData → α) : sSz f [] = pure (f []) := sSz_eq f (by decide)
@[simp] theorem sSz_1 {α : Type} (f : List PyData → α) (a : PyData) : sSz f [a] = pure (f [a]) := sSz_eq f (by simp)
@[simp] theorem sSz_2 {α : Type} (f : List PyData → α) (a b : PyData) : sSz f [a, b] = pure (f [a, b]) := sSz_eq f (by simp)
@[simp] theorem sSz_3 {α : Type} (f : List PyData → α) (a b c : PyData) : sSz f [a, b, c] = pure (f [a, b, c]) := sSz_eq f (by simp)
@[simp] theorem sSz_4 {α : Type} (f : List PyData → α) (a b c d : PyData) : sSz f [a, b, c, d] = pure (f [a, b, c, d]) := sSz_eq f (by simp)
@[simp] theorem sSz_5 {α : Type} (f : List PyData → α) (a b c d e : PyData) : sSz f [a, b, c, d, e] = pure (f [a, b, c, d, e]) := sSz_eq f (by simp)
@[simp] theorem sCallB_p (g : List PyData → Option RV) (xs : List PyData) : sCallB g (pure xs) = sOp (g xs) := rfl
@[simp] theorem sIsi_p (T : String) (x : PyData) : sIsi T (pure x) = pure (.bool (isiD T x)) := rfl
@[simp] theorem partS_i (i : Int) : partS (.int i) = pure (some i) := rfl
@[simp] theorem sSl_p (a : PyData) (i j : Option Int) : sSl (pure a) (pure i) (pure j) = sOp (pySl a i j) := rfl
@[simp] theorem intS_i (i : Int) : intS (.int i) = pure i := rfl
@[simp] theorem sRg1_i (i : Int) : sRg1 (pure (.int i)) = pure (0, i) := rfl
@[simp] theorem sRg2_i (i j : Int) : sRg2 (pure (.int i)) (pure (.int j)) = pure (i, j) := rfl
@[simp] theorem itemsS_l (ds : List PyData) : itemsS (.list ds) = pure ds := rfl
@[simp] theorem itemsS_t (ds : List PyData) : itemsS (.tuple ds) = pure ds := rfl
@[simp] theorem sItems_l (ds : List PyData) : sItems (pure (.list ds)) = pure ds := rfl
@[simp] theorem sItems_t (ds : List PyData) : sItems (pure (.tuple ds)) = pure ds := rfl
@[simp] theorem sRange1_p (a : Int) : sRange1 (pure (.int a)) = S.opt (rngTo 0 a) := rfl
@[simp] theorem sRange2_p (a b : Int) : sRange2 (pure (.int a)) (pure (.int b)) = S.opt (rngTo a b) := rfl
@[simp] theorem sEnum_l (ds : List PyData) : sEnum (pure (.list ds)) = pure (numbered 0 ds) := rfl
@[simp] theorem sEnum_t (ds : List PyData) : sEnum (pure (.tuple ds)) = pure (numbered 0 ds) := rfl
@[simp] theorem sZip_l (ds es : List PyData) : sZip (pure (.list ds)) (pure (.list es)) = pure (zipped ds es) := rfl
@[simp] theorem sZip_t (ds es : List PyData) : sZip (pure (.tuple ds)) (pure (.tuple es)) = pure (zipped ds es) := rfl
@[simp] theorem sIdx_p (a b : PyData) : sIdx (pure a) (pure b) = sOp (pyIndex a b) := rfl
@[simp] theorem sRepr_p (a : PyData) : sRepr (pure a) = sOp (pyRepr1 a) := rfl
@[simp] theorem cmpB_b (b : Bool) : cmpB (some (.d (.bool b))) = pure b := rfl
theorem sChain_p (g1 g2 : PyData → PyData → Option RV) (a b c : PyData) : sChain g1 g2 (pure a) (pure b) (pure c) = (cmpB (g1 a b) >>= fun k => if k then sOp (g2 b c) else pure (.bool false)) := rfl
@[simp] theorem sComp_p {α : Type} (un : PyData → Option α) (xs : List PyData) (ct : α → S Bool) (ce : α → S PyData) : sComp un (pure xs) ct ce = compG (fun x => S.opt (un x) >>= fun q => ct q >>= fun b => if b then ce q >>= fun y => pure (some y) else pure none) xs >>= sSz .list := rfl
@[simp] theorem sCompA_p {α : Type} (un : PyData → Option α) (xs : List PyData) (ce : α → S PyData) : sCompA un (pure xs) ce = mapG (fun x => S.opt (un x) >>= ce) xs >>= sSz .list := rfl
@[simp] theorem un1_p (x : PyData) : un1 x = some x := rfl
@[simp] theorem un2_p (a b : PyData) : un2 (.tuple [a, b]) = some (a, b) := rfl
@[simp] theorem un3_p (a b c : PyData) : un3 (.tuple [a, b, c]) = some (a, b, c) := rfl
@[simp] theorem un4_p (a b c d : PyData) : un4 (.tuple [a, b, c, d]) = some (a, b, c, d) := rfl
@[simp] theorem un21_p (a b c : PyData) : un21 (.tuple [.tuple [a, b], c]) = some (a, b, c) := rfl
@[simp] theorem un12_p (a b c : PyData) : un12 (.tuple [a, .tuple [b, c]]) = some (a, b, c) := rfl
@[simp] theorem two_p (a b : PyData) : two [a, b] = some (a, b) := rfl
@[simp] theorem three_p (a b c : PyData) : three [a, b, c] = some (a, b, c) := rfl
@[simp] theorem outR_ret {κ σ : Type} (k : σ → S PyData) (x : PyData) : outR (κ := κ) k (.ret x) = pure x := rfl
@[simp] theorem outR_nxt {κ σ : Type} (k : σ → S PyData) (v : σ) : outR (κ := κ) k (.nxt v) = k v := rfl
@[simp] theorem outW_ret {κ σ τ : Type} (k : σ → τ) (x : PyData) : outW (κ := κ) k (.ret x) = pure (.ret x) := rfl
@[simp] theorem outW_nxt {κ σ τ : Type} (k : σ → τ) (v : σ) : outW (κ := κ) k (.nxt v) = pure (.nxt (k v)) := rfl
@[simp] theorem outB_ret {κ σ τ : Type} (k : σ → S (Out κ τ)) (x : PyData) : outB k (.ret x) = pure (.ret x) := rfl
@[simp] theorem outB_nxt {κ σ τ : Type} (k : σ → S (Out κ τ)) (v : σ) : outB k (.nxt v) = k v := rfl
@[simp] theorem outB_brk {κ σ τ : Type} (k : σ → S (Out κ τ)) (v : κ) : outB k (.brk v) = pure (.brk v) := rfl
@[simp] theorem outB_ctn {κ σ τ : Type} (k : σ → S (Out κ τ)) (v : κ) : outB k (.ctn v) = pure (.ctn v) := rfl
theorem bind_ite {α β : Type} (c : Prop) [Decidable c] (a b : S α) (f : α → S β) : ((if c then a else b) >>= f) = if c then a >>= f else b >>= f := by split <;> rfl
/-! lists -/
@[simp] theorem mapG_nil {α β : Type} (f : α → S β) : mapG f [] = pure [] := rfl
theorem mapG_cons {α β : Type} (f : α → S β) (x : α) (xs : List α) : mapG f (x :: xs) = f x >>= fun y => mapG f xs >>= fun ys => pure (y :: ys) := rfl
@[simp] theorem mapG_map {α β γ : Type} (e : γ → α) (f : α → S β) : ∀ l : List γ, mapG f (l.map e) = mapG (fun a => f (e a)) l
  | [] => rfl
  | x :: l => by rw [List.map_cons, mapG_cons, mapG_cons, mapG_map e f l]
theorem mapG_enc {α β γ : Type} {f : α → S γ} (e : β → γ) (h : α → β) : ∀ {l : List α}, (∀ x ∈ l, f x = pure (e (h x))) → mapG f l = pure ((l.map h).map e)
  | [], _ => rfl
  | x :: l, k => by
    rw [mapG_cons, k x (by simp), mapG_enc e h fun y hy => k y (List.mem_cons_of_mem _ hy)]
    rfl
theorem mapG_eq {α β : Type} {f : α → S β} (h : α → β) : ∀ {l : List α}, (∀ x ∈ l, f x = pure (h x)) → mapG f l = pure (l.map h)
  | [], _ => rfl
  | x :: l, k => by
    rw [mapG_cons, k x (by simp), mapG_eq h fun y hy => k y (List.mem_cons_of_mem _ hy)]
    rfl
@[simp] theorem mapG_pure {α β : Type} (h : α → β) (l : List α) : mapG (fun x => (pure (h x) : S β)) l = pure (l.map h) := mapG_eq h fun _ _ => rfl
theorem mapG_congr {α β : Type} {f g : α → S β} {l l' : List α} (e : l = l') (h : ∀ x ∈ l', f x = g x) : mapG f l = mapG g l' := by
  subst e
  induction l with
  | nil => rfl
  | cons x l ih => rw [mapG_cons, mapG_cons, h x (by simp), ih fun y hy => h y (List.mem_cons_of_mem _ hy)]
@[simp] theorem compG_nil {α β : Type} (f : α → S (Option β)) : compG f [] = pure [] := rfl
theorem compG_cons {α β : Type} (f : α → S (Option β)) (x : α) (xs : List α) : compG f (x :: xs) = f x >>= fun o => compG f xs >>= fun ys => pure (o.toList ++ ys) := rfl
@[simp] theorem compG_map {α β γ : Type} (e : γ → α) (f : α → S (Option β)) : ∀ l : List γ, compG f (l.map e) = compG (fun a => f (e a)) l
  | [] => rfl
  | x :: l => by rw [List.map_cons, compG_cons, compG_cons, compG_map e f l]
theorem compG_eq {α β : Type} {f : α → S (Option β)} (c : α → Bool) (h : α → β) : ∀ {l : List α}, (∀ x ∈ l, f x = if c x then pure (some (h x)) else pure none) → compG f l = pure ((l.filter c).map h)
  | [], _ => rfl
  | x :: l, k => by
    rw [compG_cons, k x (by simp), compG_eq c h fun y hy => k y (List.mem_cons_of_mem _ hy)]
    cases q : c x <;> simp [List.filter_cons, q]
theorem compG_enc {α β γ : Type} {f : α → S (Option γ)} (e : β → γ) (c : α → Bool) (h : α → β) : ∀ {l : List α}, (∀ x ∈ l, f x = if c x then pure (some (e (h x))) else pure none) → compG f l = pure (((l.filter c).map h).map e)
  | [], _ => rfl
  | x :: l, k => by
    rw [compG_cons, k x (by simp), compG_enc e c h fun y hy => k y (List.mem_cons_of_mem _ hy)]
    cases q : c x <;> simp [List.filter_cons, q]
@[simp] theorem compG_if {α β : Type} (c : α → Prop) [DecidablePred c] (h : α → β) (l : List α) : compG (fun x => (if c x then pure (some (h x)) else pure none : S (Option β))) l = pure ((l.filter fun x => decide (c x)).map h) :=
  compG_eq (fun x => decide (c x)) h fun x _ => by by_cases q : c x <;> simp [q]
theorem compG_congr {α β : Type} {f g : α → S (Option β)} {l l' : List α} (e : l = l') (h : ∀ x ∈ l', f x = g x) : compG f l = compG g l' := by
  subst e
  induction l with
  | nil => rfl
  | cons x l ih => rw [compG_cons, compG_cons, h x (by simp), ih fun y hy => h y (List.mem_cons_of_mem _ hy)]
@[simp] theorem foldS_nil {α σ : Type} (f : σ → α → S σ) (v : σ) : foldS f [] v = pure v := rfl
theorem foldS_cons {α σ : Type} (f : σ → α → S σ) (x : α) (xs : List α) (v : σ) : foldS f (x :: xs) v = f v x >>= foldS f xs := rfl
@[simp] theorem foldS_map {α γ σ : Type} (e : γ → α) (f : σ → α → S σ) : ∀ (l : List γ) (v : σ), foldS f (l.map e) v = foldS (fun v a => f v (e a)) l v
  | [], _ => rfl
  | x :: l, v => by
    rw [List.map_cons, foldS_cons, foldS_cons]
    congr 1
    funext w
    exact foldS_map e f l w
/-- a loop that computes: by an encoding of its state -/
theorem foldS_eq {α σ τ : Type} {f : σ → α → S σ} (enc : τ → σ) (st : τ → α → τ) (I : List α → τ → Prop) : ∀ {l : List α} {v : τ}, I l v → (∀ x r v, I (x :: r) v → f (enc v) x = pure (enc (st v x)) ∧ I r (st v x)) → foldS f l (enc v) = pure (enc (l.foldl st v))
  | [], v, _, _ => rfl
  | x :: l, v, i, h => by
    obtain ⟨h1, h2⟩ := h x l v i
    rw [foldS_cons, h1, pure_bind, foldS_eq enc st I h2 h]
    rfl
theorem foldS_eq' {α σ τ : Type} {f : σ → α → S σ} (enc : τ → σ) (st : τ → α → τ) {l : List α} {v : τ} (h : ∀ x ∈ l, ∀ v, f (enc v) x = pure (enc (st v x))) : foldS f l (enc v) = pure (enc (l.foldl st v)) := by
  induction l generalizing v with
  | nil => rfl
  | cons x l ih =>
    rw [foldS_cons, h x (by simp), pure_bind, ih fun y hy => h y (List.mem_cons_of_mem _ hy)]
    rfl
theorem forO_nil {α σ κ : Type} (f : σ → α → S (Out σ σ)) (v : σ) : forO (κ := κ) f [] v = pure (.nxt v) := rfl
theorem forO_cons {α σ κ : Type} (f : σ → α → S (Out σ σ)) (x : α) (xs : List α) (v : σ) : forO (κ := κ) f (x :: xs) v = f v x >>= fun o => match o with
    | .ret r => pure (.ret r)
    | .brk v => pure (.nxt v)
    | .ctn v => forO f xs v
    | .nxt v => forO f xs v := rfl
@[simp] theorem forO_map {α γ σ κ : Type} (e : γ → α) (f : σ → α → S (Out σ σ)) : ∀ (l : List γ) (v : σ), forO (κ := κ) f (l.map e) v = forO (fun v a => f v (e a)) l v
  | [], _ => rfl
  | x :: l, v => by
    rw [List.map_cons, forO_cons, forO_cons]
    congr 1
    funext o
    cases o with
    | ctn w => exact forO_map e f l w
    | nxt w => exact forO_map e f l w
    | _ => rfl
/-- a loop that gives back at the first x with c x -/
theorem forO_find {α κ : Type} {f : Unit → α → S (Out Unit Unit)} (c : α → Bool) (r : α → PyData) : ∀ {l : List α}, (∀ x ∈ l, f () x = if c x then pure (.ret (r x)) else pure (.nxt ())) → forO (κ := κ) f l () = pure (match l.find? c with
    | some x => .ret (r x)
    | none => .nxt ())
  | [], _ => rfl
  | x :: l, h => by
    rw [forO_cons, h x (by simp)]
    cases q : c x with
    | true => simp [List.find?_cons, q]
    | false =>
      have ih := forO_find (κ := κ) c r (l := l) fun y hy => h y (List.mem_cons_of_mem _ hy)
      simp [List.find?_cons, q, ih]
/-! data -/
@[simp] theorem isi_nn (T : String) : isiD T .none = (T == "NoneType") := by simp [isiD, tyName, BEq.comm]
@[simp] theorem isi_bb (T : String) (b : Bool) : isiD T (.bool b) = (T == "bool" || T == "int") := by simp [isiD, tyName, BEq.comm]
@[simp] theorem isi_ii (T : String) (b : Int) : isiD T (.int b) = (T == "int") := by simp [isiD, tyName, BEq.comm]
@[simp] theorem isi_ss (T : String) (b : Str) : isiD T (.str b) = (T == "str") := by simp [isiD, tyName, BEq.comm]
@[simp] theorem isi_ll (T : String) (b : List PyData) : isiD T (.list b) = (T == "list") := by simp [isiD, tyName, BEq.comm]
@[simp] theorem isi_tt (T : String) (b : List PyData) : isiD T (.tuple b) = (T == "tuple") := by simp [isiD, tyName, BEq.comm]
@[simp] theorem isi_dd (T : String) (b : List (PyData × PyData)) : isiD T (.dict b) = (T == "dict") := by simp [isiD, tyName, BEq.comm]
@[simp] theorem pyAdd_ii (i j : Int) : pyAdd (.int i) (.int j) = some (.d (.int (i + j))) := rfl
@[simp] theorem pySub_ii (i j : Int) : pySub (.int i) (.int j) = some (.d (.int (i - j))) := rfl
@[simp] theorem pyNeg_i (i : Int) : pyNeg (.int i) = some (.d (.int (-i))) := rfl
@[simp] theorem pyLt_ii (i j : Int) : pyLt (.int i) (.int j) = some (.d (.bool (decide (i < j)))) := rfl
@[simp] theorem pyLe_ii (i j : Int) : pyLe (.int i) (.int j) = some (.d (.bool (decide (i ≤ j)))) := rfl
@[simp] theorem pyGt_ii (i j : Int) : pyGt (.int i) (.int j) = some (.d (.bool (decide (j < i)))) := rfl
@[simp] theorem pyGe_ii (i j : Int) : pyGe (.int i) (.int j) = some (.d (.bool (decide (j ≤ i)))) := rfl
@[simp] theorem pyEq_ii (i j : Int) : pyEq (.int i) (.int j) = some (.d (.bool (decide (i = j)))) := eq_ints i j
@[simp] theorem pyNe_ii (i j : Int) : pyNe (.int i) (.int j) = some (.d (.bool (decide (i ≠ j)))) := ne_ints i j
@[simp] theorem pyEq_tt (a b : List Int) : pyEq (.tuple (a.map .int)) (.tuple (b.map .int)) = some (.d (.bool (decide (a = b)))) := eq_tints a b
@[simp] theorem pyNe_tt (a b : List Int) : pyNe (.tuple (a.map .int)) (.tuple (b.map .int)) = some (.d (.bool (decide (a ≠ b)))) := ne_tints a b
@[simp] theorem pyEq_ll (a b : List Int) : pyEq (.list (a.map .int)) (.list (b.map .int)) = some (.d (.bool (decide (a = b)))) := eq_lints a b
@[simp] theorem pyNe_l0 (ds : List PyData) : pyNe (.list ds) (.list []) = some (.d (.bool (!ds.isEmpty))) := by
  rw [ne_nil]
  cases ds <;> rfl
@[simp] theorem pyEq_l0 (ds : List PyData) : pyEq (.list ds) (.list []) = some (.d (.bool ds.isEmpty)) := by
  cases ds with
  | nil => rfl
  | cons d ds => simp [pyEq, eqOk, otherLen, PyData.eqv, PyData.eqvAll]
@[simp] theorem len_t (ds : List PyData) : DL.pyLen [.tuple ds] = some (.d (.int (ds.length : Nat))) := rfl
@[simp] theorem len_l (ds : List PyData) : DL.pyLen [.list ds] = some (.d (.int (ds.length : Nat))) := rfl
@[simp] theorem tupOf_l (ds : List PyData) : pyTupOf [.list ds] = some (.d (.tuple ds)) := rfl
@[simp] theorem tupOf_t (ds : List PyData) : pyTupOf [.tuple ds] = some (.d (.tuple ds)) := rfl
@[simp] theorem listOf_l (ds : List PyData) : pyListOf [.list ds] = some (.fr (.list ds)) := rfl
@[simp] theorem listOf_t (ds : List PyData) : pyListOf [.tuple ds] = some (.fr (.list ds)) := rfl
@[simp] theorem sorted_t (ns : List Int) : pySorted [.tuple (ns.map .int)] = some (.fr (.list ((isort ns).map .int))) := sorted_tints ns
@[simp] theorem sorted_l (ns : List Int) : pySorted [.list (ns.map .int)] = some (.fr (.list ((isort ns).map .int))) := sorted_lints ns
@[simp] theorem all_m {α : Type} (f : α → Bool) (l : List α) : pyAll [.list (l.map fun x => .bool (f x))] = some (.d (.bool (l.all f))) := all_mapf f l
theorem any_mapf {α : Type} (f : α → Bool) (ds : List α) : pyAny [.list (ds.map fun x => .bool (f x))] = some (.d (.bool (ds.any f))) := by
  simp [pyAny, boolsOf_mapf, List.any_map]
@[simp] theorem any_m {α : Type} (f : α → Bool) (l : List α) : pyAny [.list (l.map fun x => .bool (f x))] = some (.d (.bool (l.any f))) := any_mapf f l
@[simp] theorem intsOf_m (ns : List Int) : intsOf (ns.map .int) = some ns := by
  induction ns with
  | nil => rfl
  | cons n ns ih => simp [intsOf, ih]
@[simp] theorem sum_m (ns : List Int) : pySum [.list (ns.map .int)] = some (.d (.int ns.sum)) := by simp [pySum, oneI]
@[simp] theorem int_i (i : Int) : pyInt [.int i] = some (.d (.int i)) := rfl
@[simp] theorem int_b (b : Bool) : pyInt [.bool b] = some (.d (.int (if b then 1 else 0))) := rfl
@[simp] theorem bool_b (b : Bool) : pyBool [.bool b] = some (.d (.bool b)) := rfl
@[simp] theorem rev_l (ds : List PyData) : pyRev (.list ds) = some (.fr (.list ds.reverse)) := rfl
@[simp] theorem rev_t (ds : List PyData) : pyRev (.tuple ds) = some (.d (.tuple ds.reverse)) := rfl
@[simp] theorem pyIs_nn (b : Bool) : pyIs b .none .none = some (.d (.bool (!b))) := rfl
@[simp] theorem sl_l (ds : List PyData) (i j : Option Int) : pySl (.list ds) i j = some (.fr (.list (cutD ds i j))) := rfl
@[simp] theorem sl_t (ds : List PyData) (i j : Option Int) : pySl (.tuple ds) i j = some (.d (.tuple (cutD ds i j))) := rfl
theorem add_t {a b : List PyData} (h : a.length + b.length ≤ 16777216) : pyAdd (.tuple a) (.tuple b) = some (.d (.tuple (a ++ b))) := add_tups h
theorem add_l {a b : List PyData} (h : a.length + b.length ≤ 16777216) : pyAdd (.list a) (.list b) = some (.fr (.list (a ++ b))) := add_lsts h
theorem ix_t {ns : List Int} {p : Int} (h : 0 ≤ p ∧ p < ns.length) : pyIx (.tuple (ns.map .int)) (.int p) = some (.d (.int (at0 ns p))) := by
  simp [pyIx, atI_ints h.1 h.2]
theorem ix_l {ns : List Int} {p : Int} (h : 0 ≤ p ∧ p < ns.length) : pyIx (.list (ns.map .int)) (.int p) = some (.d (.int (at0 ns p))) := by
  simp [pyIx, atI_ints h.1 h.2]
theorem appS_eq {ds : List PyData} {d : PyData} (h : ds.length < 16777216) : appS (.list ds) d = pure (.list (ds ++ [d])) := by
  show (if ds.length < sizeLine then (pure (.list (ds ++ [d])) : S PyData) else S.fail) = _
  rw [if_pos (by rw [sizeLine_eq]; exact h)]
theorem extS_eq {ds es : List PyData} (h : ds.length + es.length ≤ 16777216) : extS (.list ds) (.list es) = pure (.list (ds ++ es)) := by
  show (if ds.length + es.length ≤ sizeLine then (pure (.list (ds ++ es)) : S PyData) else S.fail) = _
  rw [if_pos (by rw [sizeLine_eq]; exact h)]
theorem rng0 {n : Nat} (h : n ≤ 16777216) : rngTo 0 (n : Int) = some ((ints0 n).map .int) := rngTo_nat h
theorem rgL_nat (f : List PyData → PyData) {n : Nat} (h : n ≤ 16777216) : sRgL f (pure (0, (n : Int))) = pure (f ((ints0 n).map .int)) := by
  unfold sRgL
  simp [rgTo_nat h]
/-- ints from i up to below j -/
def ir (i j : Int) : List Int := (List.range (j - i).toNat).map fun k : Nat => i + k
theorem rng_ir {i j : Int} (h : i.natAbs < 2 ^ 62 ∧ j.natAbs < 2 ^ 62) : rngTo i j = some ((ir i j).map .int) := by
  unfold rngTo
  rw [if_pos h]
  simp [intsFrom, ir, Function.comp_def]
theorem mem_ir {i j k : Int} : k ∈ ir i j ↔ i ≤ k ∧ k < j := by
  unfold ir
  rw [List.mem_map]
  constructor
  · rintro ⟨m, hm, rfl⟩
    have := List.mem_range.mp hm
    omega
  · rintro ⟨h0, h1⟩
    exact ⟨(k - i).toNat, List.mem_range.mpr (by omega), by omega⟩
theorem ir_length (i j : Int) : (ir i j).length = (j - i).toNat := by simp [ir]
/-! ### whatever is drawn -/
def Live (g : G) : Prop := ∃ s : Src, g = some s ∧ s.cells.length ≤ 63
def Tot {α : Type} (m : S α) (Q : α → Prop) : Prop := ∀ g, Live g → ∃ a g', m g = some (a, g') ∧ Live g' ∧ Q a
theorem Tot.pure {α : Type} {a : α} {Q : α → Prop} (h : Q a) : Tot (Pure.pure a : S α) Q := fun g hg => ⟨a, g, rfl, hg, h⟩
theorem Tot.bind {α β : Type} {m : S α} {f : α → S β} {R : α → Prop} {Q : β → Prop} (h : Tot m R) (k : ∀ a, R a → Tot (f a) Q) : Tot (m >>= f) Q := fun g hg => by
  obtain ⟨a, g1, h1, h2, h3⟩ := h g hg
  obtain ⟨b, g2, h4, h5, h6⟩ := k a h3 g1 h2
  exact ⟨b, g2, by rw [S.bind_def, h1]; exact h4, h5, h6⟩
theorem Tot.mono {α : Type} {m : S α} {R Q : α → Prop} (h : Tot m R) (k : ∀ a, R a → Q a) : Tot m Q := fun g hg =>
  let ⟨a, g', h1, h2, h3⟩ := h g hg
  ⟨a, g', h1, h2, k a h3⟩
theorem Tot.eq {α : Type} {m m' : S α} {Q : α → Prop} (h : Tot m' Q) (e : m = m') : Tot m Q := e ▸ h
inductive F2 {α β : Type} (R : α → β → Prop) : List α → List β → Prop
  | nil : F2 R [] []
  | cons {a : α} {b : β} {as : List α} {bs : List β} : R a b → F2 R as bs → F2 R (a :: as) (b :: bs)
theorem Tot.mapG {α β : Type} {f : α → S β} (R : α → β → Prop) : ∀ {l : List α}, (∀ x ∈ l, Tot (f x) (R x)) → Tot (mapG f l) fun ys => F2 R l ys
  | [], _ => Tot.pure .nil
  | x :: l, h => Tot.bind (h x (by simp)) fun y hy => Tot.bind (Tot.mapG R fun z hz => h z (List.mem_cons_of_mem _ hz)) fun ys hys => Tot.pure (.cons hy hys)
theorem forall2_all {α β : Type} {P : β → Prop} : ∀ {l : List α} {ys : List β}, F2 (fun _ y => P y) l ys → ys.length = l.length ∧ ∀ y ∈ ys, P y
  | _, _, .nil => ⟨rfl, fun _ h => by cases h⟩
  | _, _, .cons h k => by
    obtain ⟨h1, h2⟩ := forall2_all k
    exact ⟨by simp [h1], fun y hy => by rcases List.mem_cons.mp hy with rfl | hy; exact h; exact h2 y hy⟩
theorem Tot.mapA {α β : Type} {f : α → S β} (P : β → Prop) {l : List α} (h : ∀ x ∈ l, Tot (f x) P) : Tot (DL.mapG f l) fun ys => ys.length = l.length ∧ ∀ y ∈ ys, P y :=
  (Tot.mapG (fun _ y => P y) h).mono fun _ h => forall2_all h
/-- some of a list, in their sequence -/
theorem Tot.compSub {α β : Type} {f : α → S (Option β)} (h : α → β) : ∀ {l : List α}, (∀ x ∈ l, Tot (f x) fun o => o = none ∨ o = some (h x)) → Tot (compG f l) fun ys => ∃ r : List α, r.Sublist l ∧ ys = r.map h
  | [], _ => Tot.pure ⟨[], .slnil, rfl⟩
  | x :: l, k => Tot.bind (k x (by simp)) fun o ho => Tot.bind (Tot.compSub h fun z hz => k z (List.mem_cons_of_mem _ hz)) fun ys ⟨r, hr, e⟩ => Tot.pure (by
      rcases ho with rfl | rfl
      · exact ⟨r, hr.cons x, e⟩
      · exact ⟨x :: r, hr.cons_cons x, by simp [e]⟩)
theorem Tot.foldS {α σ : Type} {f : σ → α → S σ} (I : σ → Prop) : ∀ {l : List α} {v : σ}, I v → (∀ x ∈ l, ∀ v, I v → Tot (f v x) I) → Tot (foldS f l v) I
  | [], v, i, _ => Tot.pure i
  | x :: l, v, i, h => Tot.bind (h x (by simp) v i) fun w hw => Tot.foldS I hw fun y hy => h y (List.mem_cons_of_mem _ hy)
/-- a loop that always goes on -/
theorem Tot.forO {α σ κ : Type} {f : σ → α → S (Out σ σ)} (I : σ → Prop) : ∀ {l : List α} {v : σ}, I v → (∀ x ∈ l, ∀ v, I v → Tot (f v x) fun o => ∃ w, o = .nxt w ∧ I w) → Tot (forO (κ := κ) f l v) fun o => ∃ w, o = .nxt w ∧ I w
  | [], v, i, _ => Tot.pure ⟨v, rfl, i⟩
  | x :: l, v, i, h => Tot.bind (h x (by simp) v i) fun o ⟨w, e, hw⟩ => by
    subst e
    exact Tot.forO I hw fun y hy => h y (List.mem_cons_of_mem _ hy)
theorem Tot.of_pick {fm : FM} {evs : List EV} {Q : PyData → Prop} (h : ∀ g, Live g → WpF (fm evs g) fun ev g' => ∃ x, (ev = .d x ∨ (ev = .fr x ∧ isObj x = true)) ∧ Live g' ∧ Q x) (he : ∀ g, Live g → ∀ ev e g', fm evs g = .ok ev e g' → e = []) : Tot (ofFM fm evs) Q := fun g hg => by
  have h1 := h g hg
  cases q : fm evs g with
  | bad => rw [q] at h1; exact h1.elim
  | exc _ _ _ _ => rw [q] at h1; exact h1.elim
  | ok ev e g' =>
    rw [q] at h1
    obtain ⟨x, h2, h3, h4⟩ := h1
    cases he g hg ev e g' q
    refine ⟨x, g', ?_, h3, h4⟩
    unfold ofFM
    rw [q]
    rcases h2 with rfl | ⟨rfl, h2⟩
    · rfl
    · simp [h2]
theorem bodyRun_nil {n : Nat} {mb : M Fl} {evs : List EV} {g g' : G} {ev : EV} {e : Env'} (h : bodyRun n mb evs g = .ok ev e g') : e = [] := by
  unfold bodyRun at h
  split at h <;> first | (cases h; done) | (cases h; rfl)
end DL
/-! what the laws share: how long texts of data are, rows of ints compared, parts of tuples -/
namespace DL
open PySem L2
mutual
def wid : PyData → Nat
  | .list ds => max ds.length (widAll ds)
  | .tuple ds => max ds.length (widAll ds)
  | _ => 0
def widAll : List PyData → Nat
  | [] => 0
  | d :: ds => max (wid d) (widAll ds)
end
theorem widAll_le {b : Nat} : ∀ {ds : List PyData}, (∀ d ∈ ds, wid d ≤ b) → widAll ds ≤ b
  | [], _ => by simp [widAll]
  | d :: ds, h => by
    have h1 := h d (by simp)
    have h2 := widAll_le (ds := ds) fun x hx => h x (List.mem_cons_of_mem _ hx)
    rw [widAll]
    omega
theorem wid_mem : ∀ {ds : List PyData} {d : PyData}, d ∈ ds → wid d ≤ widAll ds
  | e :: ds, d, h => by
    rw [widAll]
    rcases List.mem_cons.mp h with rfl | h
    · omega
    · have := wid_mem h; omega
/-- what repr asks, with bounds -/
structure Rk (d b : Nat) (x : PyData) : Prop where
  sh : x.showable = true
  dp : x.depth ≤ d
  ln : x.shown.length ≤ b
  wd : wid x ≤ b
theorem Rk.mono {d b d' b' : Nat} {x : PyData} (h : Rk d b x) (h1 : d ≤ d') (h2 : b ≤ b') : Rk d' b' x := ⟨h.sh, Nat.le_trans h.dp h1, Nat.le_trans h.ln h2, Nat.le_trans h.wd h2⟩
theorem Rk.wT {d b : Nat} {ds : List PyData} (h : Rk d b (.tuple ds)) : ds.length ≤ b ∧ ∀ e ∈ ds, wid e ≤ b := by
  have h1 := h.wd
  rw [wid] at h1
  exact ⟨by omega, fun e he => by have := wid_mem he; omega⟩
theorem wid_T {b : Nat} {ds : List PyData} (h : wid (.tuple ds) ≤ b) : ds.length ≤ b ∧ ∀ e ∈ ds, wid e ≤ b := by
  rw [wid] at h
  exact ⟨by omega, fun e he => by have := wid_mem he; omega⟩
theorem Rk.ok {d b : Nat} {x : PyData} (h : Rk d b x) (h1 : d ≤ 60) (h2 : b ≤ 16777216) : reprOk x = true := by
  unfold reprOk
  rw [h.sh, decide_eq_true (Nat.le_trans h.dp h1), decide_eq_true (show x.shown.length ≤ sizeLine by rw [sizeLine_eq]; exact Nat.le_trans h.ln h2)]
  rfl
theorem Rk.atom {x : PyData} (h : atomOk x = true) : Rk 1 60 x := let ⟨a, b, c⟩ := atom_shown h; ⟨a, b, c, by cases x <;> first | (cases h; done) | simp [wid]⟩
theorem Rk.int {i : Int} (h : i.natAbs < 10 ^ 40) : Rk 1 60 (.int i) := Rk.atom (decide_eq_true h)
theorem Rk.none : Rk 1 60 .none := Rk.atom rfl
theorem Rk.bool (b : Bool) : Rk 1 60 (.bool b) := Rk.atom rfl
theorem Rk.core {d b : Nat} {ds : List PyData} (h : ∀ x ∈ ds, Rk d b x) : PyData.showableAll ds = true ∧ PyData.depthAll ds ≤ d ∧ ∀ t ∈ PyData.shownAll ds, t.length ≤ b :=
  ⟨showableAll_of fun x hx => (h x hx).sh, depthAll_le fun x hx => (h x hx).dp, fun t ht => by
    obtain ⟨x, hx, rfl⟩ := shownAll_mem ht
    exact (h x hx).ln⟩
theorem wid_seq {d b n : Nat} {ds : List PyData} (h : ∀ x ∈ ds, Rk d b x) (hn : ds.length ≤ n) : max ds.length (widAll ds) ≤ 4 + n * (b + 2) := by
  by_cases z : ds = []
  · subst z; simp [widAll]
  · have h1 := widAll_le fun x hx => (h x hx).wd
    have hp : 0 < ds.length := List.length_pos_iff.mpr z
    have h2 : 1 * (b + 2) ≤ n * (b + 2) := Nat.mul_le_mul_right _ (by omega)
    have h3 : n * 2 ≤ n * (b + 2) := Nat.mul_le_mul_left _ (by omega)
    omega
theorem Rk.tup {d b n : Nat} {ds : List PyData} (h : ∀ x ∈ ds, Rk d b x) (hn : ds.length ≤ n) : Rk (d + 1) (4 + n * (b + 2)) (.tuple ds) := by
  obtain ⟨h1, h2, h3⟩ := Rk.core h
  refine ⟨by simpa [PyData.showable] using h1, by simp only [PyData.depth]; omega, ?_, wid_seq h hn⟩
  have h4 := tupleText_le h3
  rw [shownAll_len] at h4
  simp only [PyData.shown]
  have h5 : ds.length * (b + 2) ≤ n * (b + 2) := Nat.mul_le_mul_right _ hn
  omega
theorem Rk.lst {d b n : Nat} {ds : List PyData} (h : ∀ x ∈ ds, Rk d b x) (hn : ds.length ≤ n) : Rk (d + 1) (4 + n * (b + 2)) (.list ds) := by
  obtain ⟨h1, h2, h3⟩ := Rk.core h
  refine ⟨by simpa [PyData.showable] using h1, by simp only [PyData.depth]; omega, ?_, wid_seq h hn⟩
  have h4 := listText_le h3
  rw [shownAll_len] at h4
  simp only [PyData.shown]
  have h5 : ds.length * (b + 2) ≤ n * (b + 2) := Nat.mul_le_mul_right _ hn
  omega
/-! bounds, worked out -/
mutual
def rok : PyData → Bool
  | .tuple ds => rokAll ds
  | .list ds => rokAll ds
  | x => atomOk x
def rokAll : List PyData → Bool
  | [] => true
  | d :: ds => rok d && rokAll ds
end
mutual
def rz : PyData → Nat
  | .tuple ds => 4 + ds.length * (rzAll ds + 2)
  | .list ds => 4 + ds.length * (rzAll ds + 2)
  | _ => 60
def rzAll : List PyData → Nat
  | [] => 0
  | d :: ds => max (rz d) (rzAll ds)
end
mutual
def rdp : PyData → Nat
  | .tuple ds => rdpAll ds + 1
  | .list ds => rdpAll ds + 1
  | _ => 1
def rdpAll : List PyData → Nat
  | [] => 0
  | d :: ds => max (rdp d) (rdpAll ds)
end
mutual
theorem rk_of : ∀ x : PyData, rok x = true → Rk (rdp x) (rz x) x
  | .tuple ds, h => by
    rw [rdp, rz]
    exact Rk.tup (rk_all ds (by rw [rok] at h; exact h)) (Nat.le_refl _)
  | .list ds, h => by
    rw [rdp, rz]
    exact Rk.lst (rk_all ds (by rw [rok] at h; exact h)) (Nat.le_refl _)
  | .none, h => by rw [rdp, rz]; exact Rk.atom (by rw [rok] at h; exact h; all_goals nofun); all_goals nofun
  | .bool _, h => by rw [rdp, rz]; exact Rk.atom (by rw [rok] at h; exact h; all_goals nofun); all_goals nofun
  | .int _, h => by rw [rdp, rz]; exact Rk.atom (by rw [rok] at h; exact h; all_goals nofun); all_goals nofun
  | .str _, h => by rw [rdp, rz]; exact Rk.atom (by rw [rok] at h; exact h; all_goals nofun); all_goals nofun
  | .dict _, h => by rw [rdp, rz]; exact Rk.atom (by rw [rok] at h; exact h; all_goals nofun); all_goals nofun
theorem rk_all : ∀ ds : List PyData, rokAll ds = true → ∀ x ∈ ds, Rk (rdpAll ds) (rzAll ds) x
  | [], _, x, hx => by cases hx
  | d :: ds, h, x, hx => by
    rw [rokAll, Bool.and_eq_true] at h
    rw [rdpAll, rzAll]
    rcases List.mem_cons.mp hx with e | hx
    · rw [e]; exact (rk_of d h.1).mono (Nat.le_max_left _ _) (Nat.le_max_left _ _)
    · exact (rk_all ds h.2 x hx).mono (Nat.le_max_right _ _) (Nat.le_max_right _ _)
end
def rkOk (d b : Nat) (x : PyData) : Bool := rok x && decide (rdp x ≤ d) && decide (rz x ≤ b)
theorem rkOk_of {d b : Nat} {x : PyData} (h : rkOk d b x = true) : Rk d b x := by
  unfold rkOk at h
  rw [Bool.and_eq_true, Bool.and_eq_true, decide_eq_true_eq, decide_eq_true_eq] at h
  exact (rk_of x h.1.1).mono h.1.2 h.2
theorem repr_eq {x : PyData} (h : reprOk x = true) : pyRepr1 x = some (.d (.str x.shown)) := by
  unfold pyRepr1
  rw [if_pos h]
theorem ne_strs (a b : Str) : pyNe (.str a) (.str b) = some (.d (.bool (!PyData.eqv (.str a) (.str b)))) := by
  unfold pyNe eqOk texts2
  simp
theorem eqv_str (a : Str) : PyData.eqv (.str a) (.str a) = true := by simp [PyData.eqv]
@[simp] theorem ne_str_self (a : Str) : pyNe (.str a) (.str a) = some (.d (.bool false)) := by
  rw [ne_strs, eqv_str]; rfl
@[simp] theorem pyLt_tt (a b : List Int) : pyLt (.tuple (a.map .int)) (.tuple (b.map .int)) = some (.d (.bool (decide (a < b)))) := ltX_tints a b
@[simp] theorem pyGt_tt (a b : List Int) : pyGt (.tuple (a.map .int)) (.tuple (b.map .int)) = some (.d (.bool (decide (b < a)))) := gtX_tints a b
@[simp] theorem pyLe_tt (a b : List Int) : pyLe (.tuple (a.map .int)) (.tuple (b.map .int)) = some (.d (.bool (!decide (b < a)))) := leX_tints a b
@[simp] theorem pyGe_tt (a b : List Int) : pyGe (.tuple (a.map .int)) (.tuple (b.map .int)) = some (.d (.bool (!decide (a < b)))) := geX_tints a b
/-! parts of a list, by ints -/
theorem cut_from {ds : List PyData} {k : Nat} (hk : k ≤ ds.length) : cutD ds (some (k : Int)) none = ds.drop k := by
  unfold cutD
  rw [HT.sIx_nat, HT.sIx_none, Nat.min_eq_left hk]
  exact List.take_of_length_le (by simp)
theorem cut_upto {ds : List PyData} {k : Nat} (hk : k ≤ ds.length) : cutD ds none (some (k : Int)) = ds.take k := by
  unfold cutD
  rw [HT.sIx_none, HT.sIx_nat, Nat.min_eq_left hk, List.drop_zero, Nat.sub_zero]
theorem cutD_sub {ds : List PyData} {lo hi : Option Int} {d : PyData} (h : d ∈ cutD ds lo hi) : d ∈ ds := List.mem_of_mem_drop (List.mem_of_mem_take h)
theorem cutD_len (ds : List PyData) (lo hi : Option Int) : (cutD ds lo hi).length ≤ ds.length := by
  unfold cutD
  rw [List.length_take, List.length_drop]
  omega
/-- rows of ints among rows -/
theorem any_rows (r : List Int) (rows : List (List Int)) : ((rows.map ti).any fun z => PyData.eqv z (ti r)) = decide (r ∈ rows) := by
  rw [List.any_map]
  induction rows with
  | nil => simp
  | cons q rows ih =>
    rw [List.any_cons, ih]
    simp only [Function.comp_def, ti, PyData.eqv, eqvAll_ints, List.mem_cons]
    by_cases h1 : q = r <;> by_cases h2 : r ∈ rows <;> simp [h1, h2, Ne.symm, eq_comm]
theorem canLayAll_of : ∀ {ds : List PyData}, (∀ d ∈ ds, d.canLay0 = true) → PyData.canLayAll0 ds = true
  | [], _ => by simp [PyData.canLayAll0]
  | d :: ds, h => by
    rw [PyData.canLayAll0, h d (by simp), canLayAll_of fun x hx => h x (List.mem_cons_of_mem _ hx)]
    rfl
theorem canLay_ti (ns : List Int) : (ti ns).canLay0 = true := by simp [PyData.canLay0, canLay_ints]
theorem depth_ti (ns : List Int) : (ti ns).depth ≤ 1 := by
  rw [PyData.depth, depth_ints]
  exact Nat.le_refl _
theorem shaped_rowsT (rows : List (List Int)) : SeqAt.shaped (.tuple (rows.map ti)) = true := by
  have h1 : PyData.canLayAll0 (rows.map ti) = true := canLayAll_of fun d hd => by obtain ⟨r, _, rfl⟩ := List.mem_map.mp hd; exact canLay_ti r
  have h2 : PyData.depthAll (rows.map ti) ≤ 1 := depthAll_le fun d hd => by obtain ⟨r, _, rfl⟩ := List.mem_map.mp hd; exact depth_ti r
  unfold SeqAt.shaped
  simp only [PyData.canLay0, PyData.depth, h1, Bool.true_and, decide_eq_true_eq, Bool.and_eq_true]
  simp
  omega
theorem shaped_rowsL (rows : List (List Int)) : SeqAt.shaped (.list (rows.map ti)) = true := by
  have h1 : PyData.canLayAll0 (rows.map ti) = true := canLayAll_of fun d hd => by obtain ⟨r, _, rfl⟩ := List.mem_map.mp hd; exact canLay_ti r
  have h2 : PyData.depthAll (rows.map ti) ≤ 1 := depthAll_le fun d hd => by obtain ⟨r, _, rfl⟩ := List.mem_map.mp hd; exact depth_ti r
  unfold SeqAt.shaped
  simp only [PyData.canLay0, PyData.depth, h1, Bool.true_and, decide_eq_true_eq, Bool.and_eq_true]
  simp
  omega
theorem in_rowsT (b : Bool) (r : List Int) (rows : List (List Int)) : pyIn b (ti r) (.tuple (rows.map ti)) = some (.d (.bool (b != decide (r ∈ rows)))) := by
  simp only [pyIn, shaped_tints, shaped_rowsT, Bool.and_self, if_true, any_rows]
theorem in_rowsL (b : Bool) (r : List Int) (rows : List (List Int)) : pyIn b (ti r) (.list (rows.map ti)) = some (.d (.bool (b != decide (r ∈ rows)))) := by
  simp only [pyIn, shaped_tints, shaped_rowsL, Bool.and_self, if_true, any_rows]
/-! plain data: one is the other just if they are one -/
mutual
def pl : PyData → Bool
  | .none => true
  | .int _ => true
  | .str _ => true
  | .tuple ds => plAll ds
  | .list ds => plAll ds
  | _ => false
def plAll : List PyData → Bool
  | [] => true
  | d :: ds => pl d && plAll ds
end
theorem pl_all {ds : List PyData} (h : ∀ d ∈ ds, pl d = true) : plAll ds = true := by
  induction ds with
  | nil => rfl
  | cons d ds ih => rw [plAll, h d (by simp), ih fun x hx => h x (List.mem_cons_of_mem _ hx)]; rfl
mutual
theorem eqv_pl : ∀ x y : PyData, pl x = true → pl y = true → (PyData.eqv x y = true ↔ x = y)
  | .none, y, hx, hy => by cases y <;> simp [PyData.eqv]
  | .int i, y, hx, hy => by
    cases y <;> first | (simp [PyData.eqv]; done) | (cases hy; done)
  | .str z, y, hx, hy => by
    cases y <;> first | (simp [PyData.eqv]; done) | (cases hy; done)
  | .tuple ds, y, hx, hy => by
    cases y <;> first | (simp [PyData.eqv]; done) | (cases hy; done) | skip
    rename_i es
    rw [PyData.eqv, eqv_plAll ds es (by rw [pl] at hx; exact hx) (by rw [pl] at hy; exact hy)]
    simp
  | .list ds, y, hx, hy => by
    cases y <;> first | (simp [PyData.eqv]; done) | (cases hy; done) | skip
    rename_i es
    rw [PyData.eqv, eqv_plAll ds es (by rw [pl] at hx; exact hx) (by rw [pl] at hy; exact hy)]
    simp
  | .bool _, _, hx, _ => by cases hx
  | .dict _, _, hx, _ => by cases hx
theorem eqv_plAll : ∀ x y : List PyData, plAll x = true → plAll y = true → (PyData.eqvAll x y = true ↔ x = y)
  | [], [], _, _ => by simp [PyData.eqvAll]
  | [], _ :: _, _, _ => by simp [PyData.eqvAll]
  | _ :: _, [], _, _ => by simp [PyData.eqvAll]
  | x :: xs, y :: ys, hx, hy => by
    rw [plAll, Bool.and_eq_true] at hx hy
    rw [PyData.eqvAll, Bool.and_eq_true, eqv_pl x y hx.1 hy.1, eqv_plAll xs ys hx.2 hy.2]
    simp
end
/-- data that can be compared: plain, not too deep -/
structure Cm (k : Nat) (x : PyData) : Prop where
  p : pl x = true
  c : x.canLay0 = true
  d : x.depth ≤ k
theorem Cm.int (i : Int) : Cm 0 (.int i) := ⟨rfl, by simp [PyData.canLay0], by simp [PyData.depth]⟩
theorem Cm.none : Cm 0 .none := ⟨rfl, by simp [PyData.canLay0], by simp [PyData.depth]⟩
theorem Cm.up {j k : Nat} {x : PyData} (h : Cm j x) (e : j ≤ k) : Cm k x := ⟨h.p, h.c, Nat.le_trans h.d e⟩
theorem Cm.tup {k : Nat} {ds : List PyData} (h : ∀ d ∈ ds, Cm k d) : Cm (k + 1) (.tuple ds) :=
  ⟨by rw [pl]; exact pl_all fun d hd => (h d hd).p, by simpa [PyData.canLay0] using canLayAll_of fun d hd => (h d hd).c, by
    have := depthAll_le fun d hd => (h d hd).d
    rw [PyData.depth]; omega⟩
theorem Cm.lst {k : Nat} {ds : List PyData} (h : ∀ d ∈ ds, Cm k d) : Cm (k + 1) (.list ds) :=
  ⟨by rw [pl]; exact pl_all fun d hd => (h d hd).p, by simpa [PyData.canLay0] using canLayAll_of fun d hd => (h d hd).c, by
    have := depthAll_le fun d hd => (h d hd).d
    rw [PyData.depth]; omega⟩
theorem Cm.shaped {k : Nat} {x : PyData} (h : Cm k x) (hk : k ≤ 64) : SeqAt.shaped x = true := by
  unfold SeqAt.shaped
  rw [h.c, decide_eq_true (Nat.le_trans h.d hk)]
  rfl
theorem eq_cmp {j k : Nat} {x y : PyData} {b : Bool} (hx : Cm j x) (hy : Cm k y) (hb : b = true ↔ x = y) (h1 : j ≤ 64 := by omega) (h2 : k ≤ 64 := by omega) : pyEq x y = some (.d (.bool b)) := by
  have e : PyData.eqv x y = b := Bool.eq_iff_iff.mpr ((eqv_pl x y hx.p hy.p).trans hb.symm)
  unfold pyEq eqOk
  rw [hx.shaped h1, hy.shaped h2, e]
  rfl
theorem ne_cmp {j k : Nat} {x y : PyData} {b : Bool} (hx : Cm j x) (hy : Cm k y) (hb : b = true ↔ x = y) (h1 : j ≤ 64 := by omega) (h2 : k ≤ 64 := by omega) : pyNe x y = some (.d (.bool !b)) := by
  have e : PyData.eqv x y = b := Bool.eq_iff_iff.mpr ((eqv_pl x y hx.p hy.p).trans hb.symm)
  unfold pyNe eqOk
  rw [hx.shaped h1, hy.shaped h2, e]
  rfl
/-- ints of many figures -/
theorem Rk.intB {m : Nat} {i : Int} (h : i.natAbs < 10 ^ m) (hm : m ≤ 500) : Rk 1 (m + 2) (.int i) := by
  have h2 : i.natAbs.log2 < 1920 := by
    by_cases z : i.natAbs = 0
    · rw [z]; decide
    · refine (Nat.log2_lt z).mpr (Nat.lt_of_lt_of_le h (Nat.le_trans (Nat.pow_le_pow_right (by decide) hm) ?_))
      decide +kernel
  refine ⟨by simp [PyData.showable, h2], by simp [PyData.depth], ?_, by simp [wid]⟩
  by_cases hz : m = 0
  · subst hz
    have : i = 0 := by have : i.natAbs < 1 := h; omega
    subst this
    simp only [PyData.shown]; decide
  · have := int_text_length_le10 (a := i) (k := m) (by omega) h
    simp only [PyData.shown]
    show (Str.ofString (toString i)).length ≤ m + 2
    rw [ofString_length]
    omega
/-! data that is told: rows within rows of small ints -/
def Told (w : Nat) : Nat → PyData → Prop
  | 0, x => ∃ i : Int, x = .int i ∧ i.natAbs < 10 ^ 39
  | k + 1, x => (∃ i : Int, x = .int i ∧ i.natAbs < 10 ^ 39) ∨ ∃ ds, x = .tuple ds ∧ ds.length < w ∧ ∀ d ∈ ds, Told w k d
def Bw (w : Nat) : Nat → Nat
  | 0 => 200
  | k + 1 => 4 + w * (Bw w k + 2)
theorem Bw_mono (w : Nat) (hw : 0 < w) (k : Nat) : Bw w k ≤ Bw w (k + 1) := by
  show Bw w k ≤ 4 + w * (Bw w k + 2)
  have : 1 * (Bw w k + 2) ≤ w * (Bw w k + 2) := Nat.mul_le_mul_right _ hw
  omega
theorem Bw_ge (w : Nat) (hw : 0 < w) : ∀ k : Nat, 200 ≤ Bw w k
  | 0 => Nat.le_refl _
  | k + 1 => Nat.le_trans (Bw_ge w hw k) (Bw_mono w hw k)
abbrev RB (w k : Nat) (x : PyData) : Prop := Rk (k + 4) (Bw w k) x
theorem RB.up {w k : Nat} {x : PyData} (hw : 0 < w) (h : RB w k x) : RB w (k + 1) x := Rk.mono h (by omega) (Bw_mono w hw k)
theorem RB.tup {w k : Nat} {ds : List PyData} (h : ∀ x ∈ ds, RB w k x) (hn : ds.length ≤ w) : RB w (k + 1) (.tuple ds) := (Rk.tup h hn).mono (by omega) (Nat.le_refl _)
theorem RB.lst {w k : Nat} {ds : List PyData} (h : ∀ x ∈ ds, RB w k x) (hn : ds.length ≤ w) : RB w (k + 1) (.list ds) := (Rk.lst h hn).mono (by omega) (Nat.le_refl _)
theorem RB.int {w k : Nat} {i : Int} (hw : 0 < w) (h : i.natAbs < 10 ^ 40) : RB w k (.int i) := (Rk.int h).mono (by omega) (by have := Bw_ge w hw k; omega)
theorem Told.rb {w : Nat} (hw : 0 < w) : ∀ {k : Nat} {x : PyData}, Told w k x → RB w k x
  | 0, x, ⟨i, e, h⟩ => by subst e; exact RB.int hw (Nat.lt_trans h (by decide))
  | k + 1, x, .inl ⟨i, e, h⟩ => by subst e; exact RB.int hw (Nat.lt_trans h (by decide))
  | k + 1, x, .inr ⟨ds, e, h1, h2⟩ => by subst e; exact RB.tup (fun d hd => Told.rb hw (h2 d hd)) (by omega)
theorem Told.up {w : Nat} : ∀ {k : Nat} {x : PyData}, Told w k x → Told w (k + 1) x
  | 0, x, h => .inl h
  | k + 1, x, .inl h => .inl h
  | k + 1, x, .inr ⟨ds, e, h1, h2⟩ => .inr ⟨ds, e, h1, fun d hd => Told.up (h2 d hd)⟩
theorem Told.cl {w : Nat} : ∀ {k : Nat} {x : PyData}, Told w k x → x.canLay0 = true ∧ x.depth ≤ k
  | 0, x, ⟨i, e, h⟩ => by subst e; simp [PyData.canLay0, PyData.depth]
  | k + 1, x, .inl ⟨i, e, h⟩ => by subst e; simp [PyData.canLay0, PyData.depth]
  | k + 1, x, .inr ⟨ds, e, h1, h2⟩ => by
    subst e
    have a : PyData.canLayAll0 ds = true := canLayAll_of fun d hd => (Told.cl (h2 d hd)).1
    have b : PyData.depthAll ds ≤ k := depthAll_le fun d hd => (Told.cl (h2 d hd)).2
    exact ⟨by simpa [PyData.canLay0] using a, by rw [PyData.depth]; omega⟩
theorem Told.shaped {w k : Nat} {x : PyData} (h : Told w k x) (hk : k ≤ 20) : SeqAt.shaped x = true := by
  obtain ⟨h1, h2⟩ := h.cl
  unfold SeqAt.shaped
  simp only [h1, Bool.true_and, decide_eq_true_eq, Bool.and_eq_true]
  first | omega | (simp; omega)
theorem eq_tup0 {ds : List PyData} (h : SeqAt.shaped (.tuple ds) = true) : pyEq (.tuple ds) (.tuple []) = some (.d (.bool (decide (ds = [])))) := by
  have e : PyData.eqv (.tuple ds) (.tuple []) = decide (ds = []) := by cases ds <;> simp [PyData.eqv, PyData.eqvAll]
  unfold pyEq eqOk
  rw [h, show SeqAt.shaped (.tuple []) = true by decide, e]
  rfl
theorem told_ti {w : Nat} {ns : List Int} (hl : ns.length < w) (h : ∀ i ∈ ns, i.natAbs < 10 ^ 39) : Told w 1 (ti ns) :=
  .inr ⟨_, rfl, by simpa using hl, fun d hd => by obtain ⟨i, hi, rfl⟩ := List.mem_map.mp hd; exact ⟨i, rfl, h i hi⟩⟩
/-! draws within expressions -/
theorem bin_p (g : PyData → PyData → Option RV) (a : PyData) (s : S PyData) : sBin g (pure a) s = s >>= fun y => sOp (g a y) := by unfold sBin; simp
theorem bin_q (g : PyData → PyData → Option RV) (b : PyData) (s : S PyData) : sBin g s (pure b) = s >>= fun x => sOp (g x b) := by unfold sBin; simp
theorem callB_b (g : List PyData → Option RV) (s : S PyData) : sCallB g (sCons s (pure [])) = s >>= fun x => sOp (g [x]) := by unfold sCallB sCons; simp
theorem bool_b' (s : S PyData) : sBool s = s >>= boolS := rfl
theorem andT_p (b : Bool) (s : S Bool) : sAndT (pure b) s = if b then s else pure false := rfl
theorem tup_b (s : S PyData) : sTup (sCons s (pure [])) = s >>= fun x => pure (.tuple [x]) := by
  unfold sTup sCons
  simp
theorem cons_b (s : S PyData) (r : S (List PyData)) : sCons s r = s >>= fun x => r >>= fun xs => pure (x :: xs) := rfl
end DL
namespace LGk34
open PySem L2 DL
def topS (i : Nat) : Stmt := PySem.Challenge.pw_littleorders_k34_whole_rows_through_wort.main.body.getD i (.Pass ⟨0, 0, 0, 0⟩)
abbrev s_fraction_of : Stmt := topS 2
abbrev N_fraction_of : List Str := ["p", "q", "common"]
theorem sc_fraction_of : FnScope N_fraction_of ["p", "q"] (defScope s_fraction_of) := ⟨rfl, rfl, rfl, by decide +kernel, rfl, by decide +kernel, by decide +kernel⟩
abbrev s_fraction_sum : Stmt := topS 3
abbrev N_fraction_sum : List Str := ["a", "b"]
theorem sc_fraction_sum : FnScope N_fraction_sum ["a", "b"] (defScope s_fraction_sum) := ⟨rfl, rfl, rfl, by decide +kernel, rfl, by decide +kernel, by decide +kernel⟩
abbrev s_fraction_less : Stmt := topS 4
abbrev N_fraction_less : List Str := ["a", "b"]
theorem sc_fraction_less : FnScope N_fraction_less ["a", "b"] (defScope s_fraction_less) := ⟨rfl, rfl, rfl, by decide +kernel, rfl, by decide +kernel, by decide +kernel⟩
abbrev s_fraction_times : Stmt := topS 5
abbrev N_fraction_times : List Str := ["a", "b"]
theorem sc_fraction_times : FnScope N_fraction_times ["a", "b"] (defScope s_fraction_times) := ⟨rfl, rfl, rfl, by decide +kernel, rfl, by decide +kernel, by decide +kernel⟩
abbrev s_choose : Stmt := topS 9
abbrev N_choose : List Str := ["n", "k", "found", "i"]
theorem sc_choose : FnScope N_choose ["n", "k"] (defScope s_choose) := ⟨rfl, rfl, rfl, by decide +kernel, rfl, by decide +kernel, by decide +kernel⟩
abbrev s_row_of : Stmt := topS 10
abbrev N_row_of : List Str := ["some", "many"]
theorem sc_row_of : FnScope N_row_of ["some"] (defScope s_row_of) := ⟨rfl, rfl, rfl, by decide +kernel, rfl, by decide +kernel, by decide +kernel⟩
abbrev s_wide : Stmt := topS 11
abbrev N_wide : List Str := ["row", "many"]
theorem sc_wide : FnScope N_wide ["row", "many"] (defScope s_wide) := ⟨rfl, rfl, rfl, by decide +kernel, rfl, by decide +kernel, by decide +kernel⟩
abbrev s_row_at : Stmt := topS 12
abbrev N_row_at : List Str := ["row", "n", "found", "k", "c"]
theorem sc_row_at : FnScope N_row_at ["row", "n"] (defScope s_row_at) := ⟨rfl, rfl, rfl, by decide +kernel, rfl, by decide +kernel, by decide +kernel⟩
abbrev s_row_poly : Stmt := topS 13
abbrev N_row_poly : List Str := ["row", "found", "falling", "k", "c", "x", "y", "late"]
theorem sc_row_poly : FnScope N_row_poly ["row"] (defScope s_row_poly) := ⟨rfl, rfl, rfl, by decide +kernel, rfl, by decide +kernel, by decide +kernel⟩
abbrev s_row_through : Stmt := topS 14
abbrev N_row_through : List Str := ["worths", "found", "rest", "early", "late"]
theorem sc_row_through : FnScope N_row_through ["worths"] (defScope s_row_through) := ⟨rfl, rfl, rfl, by decide +kernel, rfl, by decide +kernel, by decide +kernel⟩
abbrev s_row_of_poly : Stmt := topS 15
abbrev N_row_of_poly : List Str := ["poly", "worths", "n", "total", "c"]
theorem sc_row_of_poly : FnScope N_row_of_poly ["poly"] (defScope s_row_of_poly) := ⟨rfl, rfl, rfl, by decide +kernel, rfl, by decide +kernel, by decide +kernel⟩
abbrev s__law_open_cells : Stmt := topS 17
abbrev N__law_open_cells : List Str := ["script", "stirred", "cell", "cells"]
theorem sc__law_open_cells : FnScope N__law_open_cells ["script"] (defScope s__law_open_cells) := ⟨rfl, rfl, rfl, by decide +kernel, rfl, by decide +kernel, by decide +kernel⟩
abbrev s__law_pick : Stmt := topS 18
abbrev N__law_pick : List Str := ["source", "most", "cells", "others", "lap", "stirred"]
theorem sc__law_pick : FnScope N__law_pick ["source", "most"] (defScope s__law_pick) := ⟨rfl, rfl, rfl, by decide +kernel, rfl, by decide +kernel, by decide +kernel⟩
abbrev s__law_of : Stmt := topS 19
abbrev N__law_of : List Str := ["source", "some"]
theorem sc__law_of : FnScope N__law_of ["source", "some"] (defScope s__law_of) := ⟨rfl, rfl, rfl, by decide +kernel, rfl, by decide +kernel, by decide +kernel⟩
abbrev s__law_is_int : Stmt := topS 20
abbrev N__law_is_int : List Str := ["value"]
theorem sc__law_is_int : FnScope N__law_is_int ["value"] (defScope s__law_is_int) := ⟨rfl, rfl, rfl, by decide +kernel, rfl, by decide +kernel, by decide +kernel⟩
abbrev s__law_fraction : Stmt := topS 21
abbrev N__law_fraction : List Str := ["p", "q", "a", "b", "sign"]
theorem sc__law_fraction : FnScope N__law_fraction ["p", "q"] (defScope s__law_fraction) := ⟨rfl, rfl, rfl, by decide +kernel, rfl, by decide +kernel, by decide +kernel⟩
abbrev s__law_plus : Stmt := topS 22
abbrev N__law_plus : List Str := ["a", "b"]
theorem sc__law_plus : FnScope N__law_plus ["a", "b"] (defScope s__law_plus) := ⟨rfl, rfl, rfl, by decide +kernel, rfl, by decide +kernel, by decide +kernel⟩
abbrev s__law_by : Stmt := topS 23
abbrev N__law_by : List Str := ["a", "b"]
theorem sc__law_by : FnScope N__law_by ["a", "b"] (defScope s__law_by) := ⟨rfl, rfl, rfl, by decide +kernel, rfl, by decide +kernel, by decide +kernel⟩
abbrev s__law_trimmed : Stmt := topS 24
abbrev N__law_trimmed : List Str := ["some", "found"]
theorem sc__law_trimmed : FnScope N__law_trimmed ["some"] (defScope s__law_trimmed) := ⟨rfl, rfl, rfl, by decide +kernel, rfl, by decide +kernel, by decide +kernel⟩
abbrev s__law_number : Stmt := topS 25
abbrev N__law_number : List Str := ["source"]
theorem sc__law_number : FnScope N__law_number ["source"] (defScope s__law_number) := ⟨rfl, rfl, rfl, by decide +kernel, rfl, by decide +kernel, by decide +kernel⟩
abbrev s__law_is_fraction : Stmt := topS 26
abbrev N__law_is_fraction : List Str := ["value", "x"]
theorem sc__law_is_fraction : FnScope N__law_is_fraction ["value"] (defScope s__law_is_fraction) := ⟨rfl, rfl, rfl, by decide +kernel, rfl, by decide +kernel, by decide +kernel⟩
abbrev s__law_choose : Stmt := topS 27
abbrev N__law_choose : List Str := ["n", "k", "top", "bottom", "i"]
theorem sc__law_choose : FnScope N__law_choose ["n", "k"] (defScope s__law_choose) := ⟨rfl, rfl, rfl, by decide +kernel, rfl, by decide +kernel, by decide +kernel⟩
abbrev s__law_row_at : Stmt := topS 28
abbrev N__law_row_at : List Str := ["row", "n", "total", "k", "c"]
theorem sc__law_row_at : FnScope N__law_row_at ["row", "n"] (defScope s__law_row_at) := ⟨rfl, rfl, rfl, by decide +kernel, rfl, by decide +kernel, by decide +kernel⟩
abbrev s__law_minus : Stmt := topS 29
abbrev N__law_minus : List Str := ["a", "b"]
theorem sc__law_minus : FnScope N__law_minus ["a", "b"] (defScope s__law_minus) := ⟨rfl, rfl, rfl, by decide +kernel, rfl, by decide +kernel, by decide +kernel⟩
abbrev s__law_is_row : Stmt := topS 30
abbrev N__law_is_row : List Str := ["value", "c"]
theorem sc__law_is_row : FnScope N__law_is_row ["value"] (defScope s__law_is_row) := ⟨rfl, rfl, rfl, by decide +kernel, rfl, by decide +kernel, by decide +kernel⟩
abbrev s__law_through : Stmt := topS 31
abbrev N__law_through : List Str := ["worths", "row", "n", "c"]
theorem sc__law_through : FnScope N__law_through ["worths"] (defScope s__law_through) := ⟨rfl, rfl, rfl, by decide +kernel, rfl, by decide +kernel, by decide +kernel⟩
abbrev s__law_poly_at : Stmt := topS 32
abbrev N__law_poly_at : List Str := ["poly", "n", "total", "c"]
theorem sc__law_poly_at : FnScope N__law_poly_at ["poly", "n"] (defScope s__law_poly_at) := ⟨rfl, rfl, rfl, by decide +kernel, rfl, by decide +kernel, by decide +kernel⟩
abbrev s_law : Stmt := topS 33
abbrev N_law : List Str := ["script", "source", "lap", "many", "worths", "turn", "row", "n", "poly", "late", "i", "is_whole", "c", "m", "leaves"]
theorem sc_law : FnScope N_law ["script"] (defScope s_law) := ⟨rfl, rfl, rfl, by decide +kernel, rfl, by decide +kernel, by decide +kernel⟩
def bd_fraction_of : M Fl :=
  (mSeqS (mSet 2 (mArg (mCallB pyGcd (mCons (mVarB 0) (mCons (mVarB 1) mNil)))))
    (mRet (mIf (M.bind (mBin pyGt (mVarB 1) (mK (.int 0))) mBool) (mDisp (fun ds => .d (.tuple ds)) (mCons (mArg (mBin pyFloorDiv (mVarB 0) (mVarB 2))) (mCons (mArg (mBin pyFloorDiv (mVarB 1) (mVarB 2))) mNil))) (mDisp (fun ds => .d (.tuple ds)) (mCons (mArg (mBin pyFloorDiv (mUn pyNeg (mVarB 0)) (mVarB 2))) (mCons (mArg (mBin pyFloorDiv (mUn pyNeg (mVarB 1)) (mVarB 2))) mNil))))))
def fm_fraction_of : FM := bodyRun 3 bd_fraction_of
def bd_fraction_sum : M Fl :=
  (mRet (mCall 2 fm_fraction_of (mCons (mArg (mBin pyAdd (mBin pyMul (mBin pyIx (mVarB 0) (mK (.int 0))) (mBin pyIx (mVarB 1) (mK (.int 1)))) (mBin pyMul (mBin pyIx (mVarB 1) (mK (.int 0))) (mBin pyIx (mVarB 0) (mK (.int 1)))))) (mCons (mArg (mBin pyMul (mBin pyIx (mVarB 0) (mK (.int 1))) (mBin pyIx (mVarB 1) (mK (.int 1))))) mNil))))
def fm_fraction_sum : FM := bodyRun 2 bd_fraction_sum
def bd_fraction_less : M Fl :=
  (mRet (mCall 2 fm_fraction_of (mCons (mArg (mBin pySub (mBin pyMul (mBin pyIx (mVarB 0) (mK (.int 0))) (mBin pyIx (mVarB 1) (mK (.int 1)))) (mBin pyMul (mBin pyIx (mVarB 1) (mK (.int 0))) (mBin pyIx (mVarB 0) (mK (.int 1)))))) (mCons (mArg (mBin pyMul (mBin pyIx (mVarB 0) (mK (.int 1))) (mBin pyIx (mVarB 1) (mK (.int 1))))) mNil))))
def fm_fraction_less : FM := bodyRun 2 bd_fraction_less
def bd_fraction_times : M Fl :=
  (mRet (mCall 2 fm_fraction_of (mCons (mArg (mBin pyMul (mBin pyIx (mVarB 0) (mK (.int 0))) (mBin pyIx (mVarB 1) (mK (.int 0))))) (mCons (mArg (mBin pyMul (mBin pyIx (mVarB 0) (mK (.int 1))) (mBin pyIx (mVarB 1) (mK (.int 1))))) mNil))))
def fm_fraction_times : FM := bodyRun 2 bd_fraction_times
def lb_choose_1 : M Fl :=
  (mSet 2 (mBin pyFloorDiv (mBin pyMul (mVarB 2) (mBin pySub (mVarB 0) (mVarB 3))) (mBin pyAdd (mVarB 3) (mK (.int 1)))))
def lp_choose_1 : M Fl :=
  mFor (.nm 3) (M.bind (mCons (mVarB 1) mNil) mRange1) lb_choose_1
def bd_choose : M Fl :=
  (mSeqS (mSet 2 (mK (.int 1)))
    (mSeqS lp_choose_1
    (mRetV 2)))
def fm_choose : FM := bodyRun 4 bd_choose
@[irreducible] def fuel_row_of : Nat := 1000000
def wh_row_of_1 : M Fl :=
  whileD (mAndT (M.bind (mBin pyGt (mVarB 1) (mK (.int 0))) mBool) (M.bind (mBin pyEq (mBin pyIx (mVarB 0) (mBin pySub (mVarB 1) (mK (.int 1)))) (mK (.tuple [(.int 0), (.int 1)]))) mBool)) (mSet 1 (mBin pySub (mVarB 1) (mK (.int 1)))) fuel_row_of
def bd_row_of : M Fl :=
  (mSeqS (mSet 1 (mCallB pyLen (mCons (mVarB 0) mNil)))
    (mSeqS wh_row_of_1
    (mRet (mCallB pyTupOf (mCons (mSl (mVarB 0) (M.pure none) (M.bind (M.bind (mVar 1) mFrz) mPart)) mNil)))))
def fm_row_of : FM := bodyRun 2 bd_row_of
def bd_wide : M Fl :=
  (mRet (mDisp (fun ds => .fr (.list ds)) (mStar (mVarB 0) (mStar (mBin pyMul (mDisp (fun ds => .fr (.list ds)) (mCons (mArg (mK (.tuple [(.int 0), (.int 1)]))) mNil)) (mBin pySub (mVarB 1) (mCallB pyLen (mCons (mVarB 0) mNil)))) mNil))))
def fm_wide : FM := bodyRun 2 bd_wide
def lb_row_at_1 : M Fl :=
  (mSet 2 (mArg (mCall 2 fm_fraction_sum (mCons (mArg (mVar 2)) (mCons (mArg (mCall 2 fm_fraction_times (mCons (mArg (mDisp (fun ds => .d (.tuple ds)) (mCons (mArg (mCall 2 fm_choose (mCons (mArg (mVar 1)) (mCons (mArg (mVar 3)) mNil)))) (mCons (mArg (mK (.int 1))) mNil)))) (mCons (mArg (mVar 4)) mNil)))) mNil)))))
def lp_row_at_1 : M Fl :=
  mFor (.tp [(.nm 3), (.nm 4)]) (M.bind (mCons (mArg (mVar 0)) mNil) mEnum) lb_row_at_1
def bd_row_at : M Fl :=
  (mSeqS (mSet 2 (mK (.tuple [(.int 0), (.int 1)])))
    (mSeqS lp_row_at_1
    (mRetV 2)))
def fm_row_at : FM := bodyRun 5 bd_row_at
def cp_row_poly_1 : M EV :=
  mComp (.nm 5) [5] (M.bind (M.bind (mVar 7) mFrz) mItems) mYes (M.bind (mCall 2 fm_fraction_times (mCons (mArg (mDisp (fun ds => .d (.tuple ds)) (mCons (mArg (mK (.int 1))) (mCons (mArg (mBin pyAdd (mVarB 3) (mK (.int 1)))) mNil)))) (mCons (mArg (mVar 5)) mNil))) mFrz)
def cp_row_poly_2 : M EV :=
  mComp (.tp [(.nm 5), (.nm 6)]) [5, 6] (M.bind (mCons (mArg (mDisp (fun ds => .fr (.list ds)) (mCons (mArg (mK (.tuple [(.int 0), (.int 1)]))) (mStar (mVarB 2) mNil)))) (mCons (mArg (mDisp (fun ds => .fr (.list ds)) (mStar (mVarB 2) (mCons (mArg (mK (.tuple [(.int 0), (.int 1)]))) mNil)))) mNil)) mZip) mYes (M.bind (mCall 2 fm_fraction_less (mCons (mArg (mVar 5)) (mCons (mArg (mCall 2 fm_fraction_times (mCons (mArg (mDisp (fun ds => .d (.tuple ds)) (mCons (mArg (mVar 3)) (mCons (mArg (mK (.int 1))) mNil)))) (mCons (mArg (mVar 6)) mNil)))) mNil))) mFrz)
def cp_row_poly_3 : M EV :=
  mComp (.tp [(.nm 5), (.nm 6)]) [5, 6] (M.bind (mCons (mArg (mVar 1)) (mCons (mArg (mCall 2 fm_wide (mCons (mArg (mVar 2)) (mCons (mArg (mCallB pyLen (mCons (mVarB 0) mNil))) mNil)))) mNil)) mZip) mYes (M.bind (mCall 2 fm_fraction_sum (mCons (mArg (mVar 5)) (mCons (mArg (mCall 2 fm_fraction_times (mCons (mArg (mVar 4)) (mCons (mArg (mVar 6)) mNil)))) mNil))) mFrz)
def lb_row_poly_1 : M Fl :=
  (mSeqS (mSet 1 (mArg cp_row_poly_3))
    (mSeqS (mSet 7 (mArg cp_row_poly_2))
    (mSet 2 (mArg cp_row_poly_1))))
def lp_row_poly_1 : M Fl :=
  mFor (.tp [(.nm 3), (.nm 4)]) (M.bind (mCons (mArg (mVar 0)) mNil) mEnum) lb_row_poly_1
def bd_row_poly : M Fl :=
  (mSeqS (mPar 1 2 (mCons (mArg (mBin pyMul (mDisp (fun ds => .fr (.list ds)) (mCons (mArg (mK (.tuple [(.int 0), (.int 1)]))) mNil)) (mCallB pyLen (mCons (mVarB 0) mNil)))) (mCons (mArg (mDisp (fun ds => .fr (.list ds)) (mCons (mArg (mK (.tuple [(.int 1), (.int 1)]))) mNil))) mNil)))
    (mSeqS lp_row_poly_1
    (mRet (mCall 1 fm_row_of (mCons (mArg (mVar 1)) mNil)))))
def fm_row_poly : FM := bodyRun 8 bd_row_poly
@[irreducible] def fuel_row_through : Nat := 1000000
def cp_row_through_1 : M EV :=
  mComp (.tp [(.nm 3), (.nm 4)]) [3, 4] (M.bind (mCons (mArg (mVar 2)) (mCons (mArg (mSl (mVarB 2) (M.bind (M.bind (mK (.int 1)) mFrz) mPart) (M.pure none))) mNil)) mZip) mYes (M.bind (mCall 2 fm_fraction_less (mCons (mArg (mVar 4)) (mCons (mArg (mVar 3)) mNil))) mFrz)
def wh_row_through_1 : M Fl :=
  whileD (M.bind (mBin pyNe (mVarB 2) (mDisp (fun ds => .fr (.list ds)) mNil)) mBool) (mSeqS (mDrop (mOn 1 (mAppend 1 (M.bind (mBin pyIx (mVarB 2) (mK (.int 0))) mFrz))))
    (mSet 2 (mArg cp_row_through_1))) fuel_row_through
def bd_row_through : M Fl :=
  (mSeqS (mParF 1 2 (mDisp (fun ds => .fr (.list ds)) mNil) (mArg (mCallB pyListOf (mCons (mVarB 0) mNil))))
    (mSeqS wh_row_through_1
    (mRet (mCall 1 fm_row_of (mCons (mArg (mVar 1)) mNil)))))
def fm_row_through : FM := bodyRun 5 bd_row_through
def lb_row_of_poly_1 : M Fl :=
  (mSet 3 (mArg (mCall 2 fm_fraction_sum (mCons (mArg (mCall 2 fm_fraction_times (mCons (mArg (mVar 3)) (mCons (mArg (mDisp (fun ds => .d (.tuple ds)) (mCons (mArg (mVar 2)) (mCons (mArg (mK (.int 1))) mNil)))) mNil)))) (mCons (mArg (mVar 4)) mNil)))))
def lp_row_of_poly_1 : M Fl :=
  mFor (.nm 4) (M.bind (M.bind (mUn pyRev (mVarB 0)) mFrz) mItems) lb_row_of_poly_1
def lb_row_of_poly_2 : M Fl :=
  (mSeqS (mSet 3 (mK (.tuple [(.int 0), (.int 1)])))
    (mSeqS lp_row_of_poly_1
    (mDrop (mOn 1 (mAppend 1 (M.bind (mVar 3) mFrz))))))
def lp_row_of_poly_2 : M Fl :=
  mFor (.nm 2) (M.bind (mCons (mCallB pyLen (mCons (mVarB 0) mNil)) mNil) mRange1) lb_row_of_poly_2
def bd_row_of_poly : M Fl :=
  (mSeqS (mSet 1 (mDisp (fun ds => .fr (.list ds)) mNil))
    (mSeqS lp_row_of_poly_2
    (mRet (mCall 1 fm_row_through (mCons (mArg (mVar 1)) mNil)))))
def fm_row_of_poly : FM := bodyRun 5 bd_row_of_poly
def cp__law_open_cells_1 : M EV :=
  mComp (.nm 2) [2] (mScrItems (mVarB 0)) mYes (M.bind (mCallB pyAbs (mCons (mVarB 2) mNil)) mFrz)
def lb__law_open_cells_1 : M Fl :=
  (mSet 1 (mBin pyMod (mCallB pyInt (mCons (mBin pyAdd (mBin pyAdd (mBin pyMul (mVarB 1) (mK (.int 69069))) (mBin pyMul (mVarB 2) (mK (.int 31)))) (mK (.int 5))) mNil)) (mK (.int 2147483629))))
def lp__law_open_cells_1 : M Fl :=
  mFor (.nm 2) (mScrItems (mVarB 0)) lb__law_open_cells_1
def bd__law_open_cells : M Fl :=
  (mSeqS (mSet 1 (mK (.int 11)))
    (mSeqS lp__law_open_cells_1
    (mSeqS (mSet 3 (mArg cp__law_open_cells_1))
    (mRet (mSrcNew (mUn pyRev (mVarB 3)) (mK (.int 1)) (mVar 1) (mK (.int 0)))))))
def fm__law_open_cells : FM := bodyRun 4 bd__law_open_cells
@[irreducible] def fuel__law_pick : Nat := 1000000
def wh__law_pick_1 : M Fl :=
  whileD (mAndT (M.bind (mBin pyLt (mSrcGet "left" (mVarB 0)) (mK (.int 2))) mBool) (M.bind (mBin pyGt (mSrcLen (mVarB 2)) (mK (.int 0))) mBool)) (mSrcPut "left" (mSrcPop (mVarB 2)) (mVarB 0)) fuel__law_pick
def bd__law_pick : M Fl :=
  (mSeqS (mIfS (M.bind (mBin pyLt (mVarB 1) (mK (.int 2))) mBool) (mRet (mK (.int 0))) mNx)
    (mSeqS (mSet 2 (mSrcGet "cells" (mVarB 0)))
    (mSeqS wh__law_pick_1
    (mSeqS (mSet 3 (mSrcGet "left" (mVarB 0)))
    (mSeqS (mIfS (M.bind (mBin pyGt (mVarB 3) (mK (.int 1))) mBool) (mSeqS (mSrcPut "left" (mBin pyFloorDiv (mVarB 3) (mVarB 1)) (mVarB 0))
    (mRet (mBin pyMod (mCallB pyInt (mCons (mVarB 3) mNil)) (mVarB 1)))) mNx)
    (mSeqS (mSrcPut "turn" (mBin pyAdd (mSrcGet "turn" (mVarB 0)) (mK (.int 1))) (mVarB 0))
    (mSeqS (mSet 4 (mSrcGet "turn" (mVarB 0)))
    (mSeqS (mSet 5 (mBin pyMod (mCallB pyInt (mCons (mBin pyAdd (mSrcGet "mixed" (mVarB 0)) (mBin pyMul (mVarB 4) (mK (.int 104729)))) mNil)) (mK (.int 998244353))))
    (mSeqS (mSet 5 (mBin pyMod (mCallB pyInt (mCons (mBin pyAdd (mBin pyMul (mVarB 5) (mVarB 5)) (mBin pyMul (mVarB 4) (mK (.int 17)))) mNil)) (mK (.int 2147483647))))
    (mRet (mBin pyMod (mCallB pyInt (mCons (mBin pyFloorDiv (mVarB 5) (mK (.int 16))) mNil)) (mVarB 1))))))))))))
def fm__law_pick : FM := bodyRun 6 bd__law_pick
def bd__law_of : M Fl :=
  (mRet (mBin pyIx (mVarB 1) (mCall 2 fm__law_pick (mCons (mArg (mVar 0)) (mCons (mArg (mCallB pyLen (mCons (mVarB 1) mNil))) mNil)))))
def fm__law_of : FM := bodyRun 2 bd__law_of
def bd__law_is_int : M Fl :=
  (mRet (mAndV (mIsi "int" (mVarB 0)) (mNotV (mIsi "bool" (mVarB 0)))))
def fm__law_is_int : FM := bodyRun 1 bd__law_is_int
@[irreducible] def fuel__law_fraction : Nat := 1000000
def wh__law_fraction_1 : M Fl :=
  whileD (M.bind (mBin pyGt (mVarB 3) (mK (.int 0))) mBool) (mPar 2 3 (mCons (mArg (mVar 3)) (mCons (mArg (mBin pyMod (mCallB pyInt (mCons (mVarB 2) mNil)) (mVarB 3))) mNil))) fuel__law_fraction
def bd__law_fraction : M Fl :=
  (mSeqS (mPar 2 3 (mCons (mArg (mCallB pyAbs (mCons (mVarB 0) mNil))) (mCons (mArg (mCallB pyAbs (mCons (mVarB 1) mNil))) mNil)))
    (mSeqS wh__law_fraction_1
    (mSeqS (mSet 4 (mIf (M.bind (mBin pyGt (mVarB 1) (mK (.int 0))) mBool) (mK (.int 1)) (mBin pySub (mK (.int 0)) (mK (.int 1)))))
    (mRet (mDisp (fun ds => .d (.tuple ds)) (mCons (mArg (mBin pyFloorDiv (mBin pyMul (mVarB 4) (mVarB 0)) (mVarB 2))) (mCons (mArg (mBin pyFloorDiv (mBin pyMul (mVarB 4) (mVarB 1)) (mVarB 2))) mNil)))))))
def fm__law_fraction : FM := bodyRun 5 bd__law_fraction
def bd__law_plus : M Fl :=
  (mRet (mCall 2 fm__law_fraction (mCons (mArg (mBin pyAdd (mBin pyMul (mBin pyIx (mVarB 0) (mK (.int 0))) (mBin pyIx (mVarB 1) (mK (.int 1)))) (mBin pyMul (mBin pyIx (mVarB 1) (mK (.int 0))) (mBin pyIx (mVarB 0) (mK (.int 1)))))) (mCons (mArg (mBin pyMul (mBin pyIx (mVarB 0) (mK (.int 1))) (mBin pyIx (mVarB 1) (mK (.int 1))))) mNil))))
def fm__law_plus : FM := bodyRun 2 bd__law_plus
def bd__law_by : M Fl :=
  (mRet (mCall 2 fm__law_fraction (mCons (mArg (mBin pyMul (mBin pyIx (mVarB 0) (mK (.int 0))) (mBin pyIx (mVarB 1) (mK (.int 0))))) (mCons (mArg (mBin pyMul (mBin pyIx (mVarB 0) (mK (.int 1))) (mBin pyIx (mVarB 1) (mK (.int 1))))) mNil))))
def fm__law_by : FM := bodyRun 2 bd__law_by
@[irreducible] def fuel__law_trimmed : Nat := 1000000
def wh__law_trimmed_1 : M Fl :=
  whileD (mAndT (M.bind (mBin pyNe (mVarB 1) (mDisp (fun ds => .fr (.list ds)) mNil)) mBool) (M.bind (mBin pyEq (mBin pyIx (mVarB 1) (mUn pyNeg (mK (.int 1)))) (mDisp (fun ds => .d (.tuple ds)) (mCons (mArg (mK (.int 0))) (mCons (mArg (mK (.int 1))) mNil)))) mBool)) (mDrop (mPop 1)) fuel__law_trimmed
def bd__law_trimmed : M Fl :=
  (mSeqS (mSet 1 (mCallB pyListOf (mCons (mVarB 0) mNil)))
    (mSeqS wh__law_trimmed_1
    (mRet (mCallB pyTupOf (mCons (mVarB 1) mNil)))))
def fm__law_trimmed : FM := bodyRun 2 bd__law_trimmed
def bd__law_number : M Fl :=
  (mRet (mCall 2 fm__law_fraction (mCons (mArg (mCall 2 fm__law_of (mCons (mArg (mVar 0)) (mCons (mArg (mDisp (fun ds => .fr (.list ds)) (mCons (mArg (mK (.int 1))) (mCons (mArg (mK (.int 1))) (mCons (mArg (mUn pyNeg (mK (.int 1)))) (mCons (mArg (mK (.int 2))) (mCons (mArg (mUn pyNeg (mK (.int 3)))) (mCons (mArg (mK (.int 5))) (mCons (mArg (mK (.int 7))) mNil))))))))) mNil)))) (mCons (mArg (mCall 2 fm__law_of (mCons (mArg (mVar 0)) (mCons (mArg (mDisp (fun ds => .fr (.list ds)) (mCons (mArg (mK (.int 1))) (mCons (mArg (mK (.int 1))) (mCons (mArg (mK (.int 1))) (mCons (mArg (mK (.int 2))) (mCons (mArg (mK (.int 3))) mNil))))))) mNil)))) mNil))))
def fm__law_number : FM := bodyRun 1 bd__law_number
def cp__law_is_fraction_1 : M EV :=
  mComp (.nm 1) [1] (M.bind (M.bind (mVar 0) mFrz) mItems) (mNotT (M.bind (mCall 1 fm__law_is_int (mCons (mArg (mVar 1)) mNil)) mBool)) (M.bind (mVar 1) mFrz)
def bd__law_is_fraction : M Fl :=
  (mSeqS (mIfS (mOrT (mNotT (M.bind (mIsi "tuple" (mVarB 0)) mBool)) (mOrT (M.bind (mBin pyNe (mCallB pyLen (mCons (mVarB 0) mNil)) (mK (.int 2))) mBool) (M.bind (mBin pyNe cp__law_is_fraction_1 (mDisp (fun ds => .fr (.list ds)) mNil)) mBool))) (mRet (mK (.bool false))) mNx)
    (mRet (mAndV (mBin pyGt (mBin pyIx (mVarB 0) (mK (.int 1))) (mK (.int 0))) (mBin pyEq (mCall 2 fm__law_fraction (mCons (mArg (mBin pyIx (mVarB 0) (mK (.int 0)))) (mCons (mArg (mBin pyIx (mVarB 0) (mK (.int 1)))) mNil))) (mVarB 0)))))
def fm__law_is_fraction : FM := bodyRun 2 bd__law_is_fraction
def lb__law_choose_1 : M Fl :=
  (mPar 2 3 (mCons (mArg (mBin pyMul (mVarB 2) (mBin pySub (mVarB 0) (mVarB 4)))) (mCons (mArg (mBin pyMul (mVarB 3) (mBin pyAdd (mVarB 4) (mK (.int 1))))) mNil)))
def lp__law_choose_1 : M Fl :=
  mFor (.nm 4) (M.bind (mCons (mVarB 1) mNil) mRange1) lb__law_choose_1
def bd__law_choose : M Fl :=
  (mSeqS (mAsgP (.tp [(.nm 2), (.nm 3)]) (M.bind (mDisp (fun ds => .d (.tuple ds)) (mCons (mArg (mK (.int 1))) (mCons (mArg (mK (.int 1))) mNil))) mFrz))
    (mSeqS lp__law_choose_1
    (mRet (mBin pyFloorDiv (mVarB 2) (mVarB 3)))))
def fm__law_choose : FM := bodyRun 5 bd__law_choose
def lb__law_row_at_1 : M Fl :=
  (mSet 2 (mArg (mCall 2 fm__law_plus (mCons (mArg (mVar 2)) (mCons (mArg (mCall 2 fm__law_by (mCons (mArg (mDisp (fun ds => .d (.tuple ds)) (mCons (mArg (mCall 2 fm__law_choose (mCons (mArg (mVar 1)) (mCons (mArg (mVar 3)) mNil)))) (mCons (mArg (mK (.int 1))) mNil)))) (mCons (mArg (mVar 4)) mNil)))) mNil)))))
def lp__law_row_at_1 : M Fl :=
  mFor (.tp [(.nm 3), (.nm 4)]) (M.bind (mCons (mArg (mVar 0)) mNil) mEnum) lb__law_row_at_1
def bd__law_row_at : M Fl :=
  (mSeqS (mSet 2 (mDisp (fun ds => .d (.tuple ds)) (mCons (mArg (mK (.int 0))) (mCons (mArg (mK (.int 1))) mNil))))
    (mSeqS lp__law_row_at_1
    (mRetV 2)))
def fm__law_row_at : FM := bodyRun 5 bd__law_row_at
def bd__law_minus : M Fl :=
  (mRet (mCall 2 fm__law_plus (mCons (mArg (mVar 0)) (mCons (mArg (mDisp (fun ds => .d (.tuple ds)) (mCons (mArg (mBin pySub (mK (.int 0)) (mBin pyIx (mVarB 1) (mK (.int 0))))) (mCons (mArg (mBin pyIx (mVarB 1) (mK (.int 1)))) mNil)))) mNil))))
def fm__law_minus : FM := bodyRun 2 bd__law_minus
def cp__law_is_row_1 : M EV :=
  mComp (.nm 1) [1] (M.bind (M.bind (mVar 0) mFrz) mItems) (mNotT (M.bind (mCall 1 fm__law_is_fraction (mCons (mArg (mVar 1)) mNil)) mBool)) (M.bind (mVar 1) mFrz)
def bd__law_is_row : M Fl :=
  (mSeqS (mIfS (mOrT (mNotT (M.bind (mIsi "tuple" (mVarB 0)) mBool)) (M.bind (mBin pyNe cp__law_is_row_1 (mDisp (fun ds => .fr (.list ds)) mNil)) mBool)) (mRet (mK (.bool false))) mNx)
    (mRet (mOrV (mBin pyEq (mVarB 0) (mDisp (fun ds => .d (.tuple ds)) mNil)) (mBin pyNe (mBin pyIx (mVarB 0) (mUn pyNeg (mK (.int 1)))) (mDisp (fun ds => .d (.tuple ds)) (mCons (mArg (mK (.int 0))) (mCons (mArg (mK (.int 1))) mNil)))))))
def fm__law_is_row : FM := bodyRun 2 bd__law_is_row
def lb__law_through_1 : M Fl :=
  (mDrop (mOn 1 (mAppend 1 (M.bind (mCall 2 fm__law_minus (mCons (mArg (mVar 3)) (mCons (mArg (mThaw (mCall 2 fm__law_row_at (mCons (mArg (mVar 1)) (mCons (mArg (mVar 2)) mNil))))) mNil))) mFrz))))
def lp__law_through_1 : M Fl :=
  mFor (.tp [(.nm 2), (.nm 3)]) (M.bind (mCons (mArg (mVar 0)) mNil) mEnum) lb__law_through_1
def bd__law_through : M Fl :=
  (mSeqS (mSet 1 (mDisp (fun ds => .fr (.list ds)) mNil))
    (mSeqS lp__law_through_1
    (mRet (mCall 1 fm__law_trimmed (mCons (mArg (mVar 1)) mNil)))))
def fm__law_through : FM := bodyRun 4 bd__law_through
def lb__law_poly_at_1 : M Fl :=
  (mSet 2 (mArg (mCall 2 fm__law_plus (mCons (mArg (mCall 2 fm__law_by (mCons (mArg (mVar 2)) (mCons (mArg (mDisp (fun ds => .d (.tuple ds)) (mCons (mArg (mVar 1)) (mCons (mArg (mK (.int 1))) mNil)))) mNil)))) (mCons (mArg (mVar 3)) mNil)))))
def lp__law_poly_at_1 : M Fl :=
  mFor (.nm 3) (M.bind (M.bind (mUn pyRev (mVarB 0)) mFrz) mItems) lb__law_poly_at_1
def bd__law_poly_at : M Fl :=
  (mSeqS (mSet 2 (mDisp (fun ds => .d (.tuple ds)) (mCons (mArg (mK (.int 0))) (mCons (mArg (mK (.int 1))) mNil))))
    (mSeqS lp__law_poly_at_1
    (mRetV 2)))
def fm__law_poly_at : FM := bodyRun 4 bd__law_poly_at
def cp_law_1 : M EV :=
  mComp (.nm 12) [12] (M.bind (M.bind (mVar 9) mFrz) mItems) (M.bind (mBin pyNe (mBin pyMod (mCallB pyInt (mCons (mBin pyIx (mVarB 12) (mK (.int 0))) mNil)) (mVarB 13)) (mK (.int 0))) mBool) (M.bind (mVar 12) mFrz)
def cp_law_2 : M EV :=
  mComp (.nm 10) [10] (M.bind (mCons (mVarB 3) mNil) mRange1) (M.bind (mBin pyNe (mBin pyMod (mCallB pyInt (mCons (mBin pyIx (mCall 2 fm_row_at (mCons (mArg (mVar 9)) (mCons (mArg (mVar 10)) mNil))) (mK (.int 0))) mNil)) (mVarB 13)) (mK (.int 0))) mBool) (M.bind (mVar 10) mFrz)
def cp_law_3 : M EV :=
  mComp (.nm 10) [10] (M.bind (mCons (mVarB 3) mNil) mRange1) (M.bind (mBin pyNe (mBin pyIx (mCall 2 fm_row_at (mCons (mArg (mVar 6)) (mCons (mArg (mVar 10)) mNil))) (mK (.int 1))) (mK (.int 1))) mBool) (M.bind (mK (.int 1)) mFrz)
def cp_law_4 : M EV :=
  mComp (.nm 12) [12] (M.bind (M.bind (mVar 6) mFrz) mItems) (M.bind (mBin pyNe (mBin pyIx (mVarB 12) (mK (.int 1))) (mK (.int 1))) mBool) (M.bind (mVar 12) mFrz)
def cp_law_5 : M EV :=
  mComp (.nm 10) [10] (M.bind (mCons (mUn pyNeg (mK (.int 6))) (mCons (mK (.int 7)) mNil)) mRange2) (M.bind (mBin pyNe (mBin pyIx (mCall 2 fm_row_at (mCons (mArg (mVar 9)) (mCons (mArg (mVar 10)) mNil))) (mK (.int 1))) (mK (.int 1))) mBool) (M.bind (mK (.int 1)) mFrz)
def cp_law_6 : M EV :=
  mComp (.nm 5) [5] (M.bind (mCons (mVarB 3) mNil) mRange1) mYes (M.bind (mDisp (fun ds => .d (.tuple ds)) (mCons (mArg (mBin pySub (mCall 2 fm__law_pick (mCons (mArg (mVar 1)) (mCons (mArg (mK (.int 9))) mNil))) (mK (.int 4)))) (mCons (mArg (mK (.int 1))) mNil))) mFrz)
def cp_law_7 : M EV :=
  mComp (.nm 7) [7] (M.bind (mCons (mVarB 3) mNil) mRange1) mYes (M.bind (mCall 2 fm_row_at (mCons (mArg (mVar 6)) (mCons (mArg (mVar 7)) mNil))) mFrz)
def cp_law_8 : M EV :=
  mComp (.nm 5) [5] (M.bind (mCons (mVarB 3) mNil) mRange1) mYes (M.bind (mIf (M.bind (mBin pyGt (mCall 2 fm__law_pick (mCons (mArg (mVar 1)) (mCons (mArg (mK (.int 3))) mNil))) (mK (.int 0))) mBool) (mCall 1 fm__law_number (mCons (mArg (mVar 1)) mNil)) (mDisp (fun ds => .d (.tuple ds)) (mCons (mArg (mK (.int 0))) (mCons (mArg (mK (.int 1))) mNil)))) mFrz)
def lb_law_1 : M Fl :=
  (mSeqS (mSet 3 (mCall 2 fm__law_pick (mCons (mArg (mVar 1)) (mCons (mArg (mK (.int 9))) mNil))))
    (mSeqS (mSet 4 (mArg cp_law_8))
    (mSeqS (mSet 6 (mArg (mCall 1 fm_row_through (mCons (mArg (mCallB pyListOf (mCons (mVarB 4) mNil))) mNil))))
    (mSeqS (mIfS (mOrT (M.bind (mBin pyNe (mRepr (M.bind (mDisp (fun ds => .fr (.list ds)) (mCons (mArg (mVar 6)) (mCons (mArg (mCall 1 fm_row_through (mCons (mArg (mCallB pyTupOf (mCons (mVarB 4) mNil))) mNil))) mNil))) mFrz)) (mRepr (M.bind (mBin pyMul (mDisp (fun ds => .fr (.list ds)) (mCons (mArg (mCall 1 fm__law_through (mCons (mArg (mVar 4)) mNil))) mNil)) (mK (.int 2))) mFrz))) mBool) (M.bind (mBin pyGt (mCallB pyLen (mCons (mVarB 6) mNil)) (mVarB 3)) mBool)) (mRet (mK (.bool false))) mNx)
    (mSeqS (mIfS (M.bind (mBin pyNe (mRepr (M.bind cp_law_7 mFrz)) (mRepr (M.bind (mVar 4) mFrz))) mBool) (mRet (mK (.bool false))) mNx)
    (mSeqS (mSet 8 (mArg (mCall 1 fm_row_poly (mCons (mArg (mVar 6)) mNil))))
    (mSeqS (mSet 7 (mArg (mCall 2 fm__law_of (mCons (mArg (mVar 1)) (mCons (mArg (mDisp (fun ds => .fr (.list ds)) (mCons (mArg (mCall 2 fm__law_pick (mCons (mArg (mVar 1)) (mCons (mArg (mK (.int 50))) mNil)))) (mCons (mArg (mBin pySub (mK (.int 0)) (mCall 2 fm__law_pick (mCons (mArg (mVar 1)) (mCons (mArg (mK (.int 50))) mNil))))) (mCons (mArg (mBin pySub (mBin pyPow (mK (.int 10)) (mK (.int 30))) (mK (.int 7)))) mNil))))) mNil)))))
    (mSeqS (mIfS (mOrT (mNotT (M.bind (mCall 1 fm__law_is_row (mCons (mArg (mVar 8)) mNil)) mBool)) (mOrT (M.bind (mBin pyNe (mCallB pyLen (mCons (mVarB 8) mNil)) (mCallB pyLen (mCons (mVarB 6) mNil))) mBool) (M.bind (mBin pyNe (mRepr (M.bind (mCall 2 fm__law_poly_at (mCons (mArg (mVar 8)) (mCons (mArg (mVar 7)) mNil))) mFrz)) (mRepr (M.bind (mCall 2 fm__law_row_at (mCons (mArg (mVar 6)) (mCons (mArg (mVar 7)) mNil))) mFrz))) mBool))) (mRet (mK (.bool false))) mNx)
    (mSeqS (mIfS (mOrT (M.bind (mBin pyNe (mRepr (M.bind (mCall 1 fm_row_of_poly (mCons (mArg (mVar 8)) mNil)) mFrz)) (mRepr (M.bind (mVar 6) mFrz))) mBool) (M.bind (mBin pyNe (mRepr (M.bind (mCall 1 fm_row_poly (mCons (mArg (mCall 1 fm_row_of_poly (mCons (mArg (mVar 6)) mNil))) mNil)) mFrz)) (mRepr (M.bind (mVar 6) mFrz))) mBool)) (mRet (mK (.bool false))) mNx)
    (mSeqS (mSet 9 (mArg (mCall 1 fm__law_trimmed (mCons (mArg cp_law_6) mNil))))
    (mSeqS (mIfS (M.bind (mBin pyNe cp_law_5 (mDisp (fun ds => .fr (.list ds)) mNil)) mBool) (mRet (mK (.bool false))) mNx)
    (mSeqS (mSet 11 (mBin pyEq cp_law_4 (mDisp (fun ds => .fr (.list ds)) mNil)))
    (mSeqS (mIfS (M.bind (mBin pyNe (mBin pyEq cp_law_3 (mDisp (fun ds => .fr (.list ds)) mNil)) (mVarB 11)) mBool) (mRet (mK (.bool false))) mNx)
    (mSeqS (mSet 13 (mBin pyAdd (mK (.int 2)) (mCall 2 fm__law_pick (mCons (mArg (mVar 1)) (mCons (mArg (mK (.int 4))) mNil)))))
    (mSeqS (mSet 14 (mArg cp_law_2))
    (mIfS (M.bind (mBin pyNe (mBin pyEq (mVarB 14) (mDisp (fun ds => .fr (.list ds)) mNil)) (mBin pyEq cp_law_1 (mDisp (fun ds => .fr (.list ds)) mNil))) mBool) (mRet (mK (.bool false))) mNx))))))))))))))))
def lp_law_1 : M Fl :=
  mFor (.nm 2) (M.bind (mCons (mK (.int 4)) mNil) mRange1) lb_law_1
def bd_law : M Fl :=
  (mSeqS (mSet 1 (mArg (mCall 1 fm__law_open_cells (mCons (mArg (mVar 0)) mNil))))
    (mSeqS lp_law_1
    (mRet (mAndV (mBin pyEq (mCall 1 fm_row_poly (mCons (mArg (mDisp (fun ds => .d (.tuple ds)) (mCons (mArg (mDisp (fun ds => .d (.tuple ds)) (mCons (mArg (mK (.int 0))) (mCons (mArg (mK (.int 1))) mNil)))) (mCons (mArg (mDisp (fun ds => .d (.tuple ds)) (mCons (mArg (mK (.int 0))) (mCons (mArg (mK (.int 1))) mNil)))) (mCons (mArg (mDisp (fun ds => .d (.tuple ds)) (mCons (mArg (mK (.int 1))) (mCons (mArg (mK (.int 1))) mNil)))) mNil))))) mNil)) (mDisp (fun ds => .d (.tuple ds)) (mCons (mArg (mDisp (fun ds => .d (.tuple ds)) (mCons (mArg (mK (.int 0))) (mCons (mArg (mK (.int 1))) mNil)))) (mCons (mArg (mDisp (fun ds => .d (.tuple ds)) (mCons (mArg (mUn pyNeg (mK (.int 1)))) (mCons (mArg (mK (.int 2))) mNil)))) (mCons (mArg (mDisp (fun ds => .d (.tuple ds)) (mCons (mArg (mK (.int 1))) (mCons (mArg (mK (.int 2))) mNil)))) mNil))))) (mBin pyEq (mCall 1 fm_row_through (mCons (mArg (mDisp (fun ds => .fr (.list ds)) mNil)) mNil)) (mDisp (fun ds => .d (.tuple ds)) mNil))))))
def fm_law : FM := bodyRun 15 bd_law
structure Zs (mg : Str → Option Value) (K : PySem.W.Frag) : Prop where
  abs : mg "abs" = none
  bool : mg "bool" = none
  enumerate : mg "enumerate" = none
  int : mg "int" = none
  isinstance : mg "isinstance" = none
  len : mg "len" = none
  list : mg "list" = none
  range : mg "range" = none
  repr : mg "repr" = none
  tuple : mg "tuple" = none
  zip : mg "zip" = none
  gcd : mg "gcd" = some (.builtin "math.gcd")
  ONE : Konst mg K "ONE" (.tuple [(.int 1), (.int 1)])
  ZERO : Konst mg K "ZERO" (.tuple [(.int 0), (.int 1)])
section
variable {P : Program} {w : World} {K : PySem.W.Frag} {mg : Str → Option Value} {base : Heap}
theorem ok_fraction_of (z : Zs mg K) (y : SysAt base) {f : Addr} {fd : FuncData} (Fu : Fun K "fraction_of" "fraction_of" s_fraction_of f fd)  : FnD P w K mg base 1 f fd ["p", "q"] fm_fraction_of := by
  refine fnd_ok (N := N_fraction_of) (k := 0) Fu sc_fraction_of fun cdv A outer s H F l hr hg => ?_
  have hu := units_of hr
  exact (dss_cons (sSet 2 sc_fraction_of.nd (de_arg (de_callBfun calld_gcd (by rfl) z.gcd (da_cons (vB 0) (da_cons (vB 1) da_nil)))))
    (dss_one (ds_ret (de_if (dt_cmp (opd_gtX (hu64 hu)) (vB 1) de_int (nomark _)) (de_tup (da_cons (de_arg (de_bin opd_fdiv (vB 0) (vB 2))) (da_cons (de_arg (de_bin opd_fdiv (vB 1) (vB 2))) da_nil))) (de_tup (da_cons (de_arg (de_bin opd_fdiv (de_un und_neg (vB 0)) (vB 2))) (da_cons (de_arg (de_bin opd_fdiv (de_un und_neg (vB 1)) (vB 2))) da_nil)))))))
theorem ok_fraction_sum (z : Zs mg K) (y : SysAt base) {f : Addr} {fd : FuncData} (Fu : Fun K "fraction_sum" "fraction_sum" s_fraction_sum f fd) (c_fraction_of : Cal P w K mg base 1 "fraction_of" ["p", "q"] fm_fraction_of) : FnD P w K mg base 2 f fd ["a", "b"] fm_fraction_sum := by
  refine fnd_ok (N := N_fraction_sum) (k := 1) Fu sc_fraction_sum fun cdv A outer s H F l hr hg => ?_
  have hu := units_of hr
  exact (dss_one (ds_ret (cC c_fraction_of hr hg (da_cons (de_arg (de_bin opd_add (de_bin opd_mul (de_ix (vB 0) de_int) (de_ix (vB 1) de_int)) (de_bin opd_mul (de_ix (vB 1) de_int) (de_ix (vB 0) de_int)))) (da_cons (de_arg (de_bin opd_mul (de_ix (vB 0) de_int) (de_ix (vB 1) de_int))) da_nil)))))
theorem ok_fraction_less (z : Zs mg K) (y : SysAt base) {f : Addr} {fd : FuncData} (Fu : Fun K "fraction_less" "fraction_less" s_fraction_less f fd) (c_fraction_of : Cal P w K mg base 1 "fraction_of" ["p", "q"] fm_fraction_of) : FnD P w K mg base 2 f fd ["a", "b"] fm_fraction_less := by
  refine fnd_ok (N := N_fraction_less) (k := 1) Fu sc_fraction_less fun cdv A outer s H F l hr hg => ?_
  have hu := units_of hr
  exact (dss_one (ds_ret (cC c_fraction_of hr hg (da_cons (de_arg (de_bin opd_sub (de_bin opd_mul (de_ix (vB 0) de_int) (de_ix (vB 1) de_int)) (de_bin opd_mul (de_ix (vB 1) de_int) (de_ix (vB 0) de_int)))) (da_cons (de_arg (de_bin opd_mul (de_ix (vB 0) de_int) (de_ix (vB 1) de_int))) da_nil)))))
theorem ok_fraction_times (z : Zs mg K) (y : SysAt base) {f : Addr} {fd : FuncData} (Fu : Fun K "fraction_times" "fraction_times" s_fraction_times f fd) (c_fraction_of : Cal P w K mg base 1 "fraction_of" ["p", "q"] fm_fraction_of) : FnD P w K mg base 2 f fd ["a", "b"] fm_fraction_times := by
  refine fnd_ok (N := N_fraction_times) (k := 1) Fu sc_fraction_times fun cdv A outer s H F l hr hg => ?_
  have hu := units_of hr
  exact (dss_one (ds_ret (cC c_fraction_of hr hg (da_cons (de_arg (de_bin opd_mul (de_ix (vB 0) de_int) (de_ix (vB 1) de_int))) (da_cons (de_arg (de_bin opd_mul (de_ix (vB 0) de_int) (de_ix (vB 1) de_int))) da_nil)))))
theorem ok_choose (z : Zs mg K) (y : SysAt base) {f : Addr} {fd : FuncData} (Fu : Fun K "choose" "choose" s_choose f fd)  : FnD P w K mg base 1 f fd ["n", "k"] fm_choose := by
  refine fnd_ok (N := N_choose) (k := 0) Fu sc_choose fun cdv A outer s H F l hr hg => ?_
  have hu := units_of hr
  exact (dss_cons (sSet 2 sc_choose.nd de_int)
    (dss_cons (ds_for PassesOwn.never rfl (di_range1 (by rfl) z.range (da_cons (vB 1) da_nil)) (gN 3 sc_choose.nd) (dss_one (sSet 2 sc_choose.nd (de_bin opd_fdiv (de_bin opd_mul (vB 2) (de_bin opd_sub (vB 0) (vB 3))) (de_bin opd_add (vB 3) de_int)))))
    (dss_one (ds_retV (pv 2)))))
theorem ok_row_of (z : Zs mg K) (y : SysAt base) {f : Addr} {fd : FuncData} (Fu : Fun K "row_of" "row_of" s_row_of f fd)  : FnD P w K mg base 1 f fd ["some"] fm_row_of := by
  refine fnd_ok (N := N_row_of) (k := 0) Fu sc_row_of fun cdv A outer s H F l hr hg => ?_
  have hu := units_of hr
  exact (dss_cons (sSet 1 sc_row_of.nd (de_callB calld_len (by rfl) z.len bt_len (da_cons (vB 0) da_nil)))
    (dss_cons (ds_while fuel_row_of PassesOwn.never (DW.dt (dw_and (dt_cmp (opd_gtX (hu64 hu)) (vB 1) de_int (nomark _)) (dw_and1 (dt_cmp (opd_eq (hu64 hu)) (de_ix (vB 0) (de_bin opd_sub (vB 1) de_int)) (de_konst (by rfl) z.ZERO) (nomark _))))) (dss_one (sSet 1 sc_row_of.nd (de_bin opd_sub (vB 1) de_int))))
    (dss_one (ds_ret (de_callTy calld_tuple (by rfl) z.tuple bt_tuple (da_cons (de_slice (vB 0) do_none (do_some (dd_of (vV 1)))) da_nil))))))
theorem ok_wide (z : Zs mg K) (y : SysAt base) {f : Addr} {fd : FuncData} (Fu : Fun K "wide" "wide" s_wide f fd)  : FnD P w K mg base 1 f fd ["row", "many"] fm_wide := by
  refine fnd_ok (N := N_wide) (k := 0) Fu sc_wide fun cdv A outer s H F l hr hg => ?_
  have hu := units_of hr
  exact (dss_one (ds_ret (de_lst (da_star (vB 0) (da_star (de_bin opd_mul (de_lst (da_cons (de_arg (de_konst (by rfl) z.ZERO)) da_nil)) (de_bin opd_sub (vB 1) (de_callB calld_len (by rfl) z.len bt_len (da_cons (vB 0) da_nil)))) da_nil)))))
theorem ok_row_at (z : Zs mg K) (y : SysAt base) {f : Addr} {fd : FuncData} (Fu : Fun K "row_at" "row_at" s_row_at f fd) (c_fraction_sum : Cal P w K mg base 2 "fraction_sum" ["a", "b"] fm_fraction_sum) (c_fraction_times : Cal P w K mg base 2 "fraction_times" ["a", "b"] fm_fraction_times) (c_choose : Cal P w K mg base 1 "choose" ["n", "k"] fm_choose) : FnD P w K mg base 3 f fd ["row", "n"] fm_row_at := by
  refine fnd_ok (N := N_row_at) (k := 2) Fu sc_row_at fun cdv A outer s H F l hr hg => ?_
  have hu := units_of hr
  exact (dss_cons (sSet 2 sc_row_at.nd (de_konst (by rfl) z.ZERO))
    (dss_cons (ds_for PassesOwn.never rfl (di_enum (by rfl) z.enumerate (da_cons (de_arg (vV 0)) da_nil)) (dg_tup rfl (dgs_cons (gN 3 sc_row_at.nd) (dgs_cons (gN 4 sc_row_at.nd) dgs_nil))) (dss_one (sSet 2 sc_row_at.nd (de_arg (cC c_fraction_sum hr hg (da_cons (de_arg (vV 2)) (da_cons (de_arg (cC c_fraction_times hr hg (da_cons (de_arg (de_tup (da_cons (de_arg (cC c_choose hr hg (da_cons (de_arg (vV 1)) (da_cons (de_arg (vV 3)) da_nil)))) (da_cons (de_arg de_int) da_nil)))) (da_cons (de_arg (vV 4)) da_nil)))) da_nil)))))))
    (dss_one (ds_retV (pv 2)))))
theorem ok_row_poly (z : Zs mg K) (y : SysAt base) {f : Addr} {fd : FuncData} (Fu : Fun K "row_poly" "row_poly" s_row_poly f fd) (c_row_of : Cal P w K mg base 1 "row_of" ["some"] fm_row_of) (c_fraction_times : Cal P w K mg base 2 "fraction_times" ["a", "b"] fm_fraction_times) (c_fraction_less : Cal P w K mg base 2 "fraction_less" ["a", "b"] fm_fraction_less) (c_wide : Cal P w K mg base 1 "wide" ["row", "many"] fm_wide) (c_fraction_sum : Cal P w K mg base 2 "fraction_sum" ["a", "b"] fm_fraction_sum) : FnD P w K mg base 3 f fd ["row"] fm_row_poly := by
  refine fnd_ok (N := N_row_poly) (k := 2) Fu sc_row_poly fun cdv A outer s H F l hr hg => ?_
  have hu := units_of hr
  exact (dss_cons (ds_par (i := 1) (j := 2) rfl sc_row_poly.nd rfl rfl (by decide) rfl rfl (da_cons (de_arg (de_bin opd_mul (de_lst (da_cons (de_arg (de_konst (by rfl) z.ZERO)) da_nil)) (de_callB calld_len (by rfl) z.len bt_len (da_cons (vB 0) da_nil)))) (da_cons (de_arg (de_lst (da_cons (de_arg (de_konst (by rfl) z.ONE)) da_nil))) da_nil)) (by rfl))
    (dss_cons (ds_for PassesOwn.never rfl (di_enum (by rfl) z.enumerate (da_cons (de_arg (vV 0)) da_nil)) (dg_tup rfl (dgs_cons (gN 3 sc_row_poly.nd) (dgs_cons (gN 4 sc_row_poly.nd) dgs_nil))) (dss_cons (ds_setCF (i := 1) (own := [("x", 5), ("y", 6)]) rfl sc_row_poly.nd rfl rfl (by rfl) (di_zip (by rfl) z.zip (da_cons (de_arg (vV 1)) (da_cons (de_arg (cC c_wide hr hg (da_cons (de_arg (vV 2)) (da_cons (de_arg (de_callB calld_len (by rfl) z.len bt_len (da_cons (vB 0) da_nil))) da_nil)))) da_nil))) (blkOk_by (N := N_row_poly) (sc := (defScope s_row_poly)) (own := [("x", 5), ("y", 6)]) (by decide +kernel)) (fun _ _ _ _ _ => (dg_tup rfl (dgs_cons (gN 5 sc_row_poly.nd) (dgs_cons (gN 6 sc_row_poly.nd) dgs_nil)))) (fun _ _ _ _ _ => dts_nil) (fun _ _ _ _ _ => (dd_of (cC c_fraction_sum hr hg (da_cons (de_arg (vV 5)) (da_cons (de_arg (cC c_fraction_times hr hg (da_cons (de_arg (vV 4)) (da_cons (de_arg (vV 6)) da_nil)))) da_nil))))) rfl)
    (dss_cons (ds_setCF (i := 7) (own := [("x", 5), ("y", 6)]) rfl sc_row_poly.nd rfl rfl (by rfl) (di_zip (by rfl) z.zip (da_cons (de_arg (de_lst (da_cons (de_arg (de_konst (by rfl) z.ZERO)) (da_star (vB 2) da_nil)))) (da_cons (de_arg (de_lst (da_star (vB 2) (da_cons (de_arg (de_konst (by rfl) z.ZERO)) da_nil)))) da_nil))) (blkOk_by (N := N_row_poly) (sc := (defScope s_row_poly)) (own := [("x", 5), ("y", 6)]) (by decide +kernel)) (fun _ _ _ _ _ => (dg_tup rfl (dgs_cons (gN 5 sc_row_poly.nd) (dgs_cons (gN 6 sc_row_poly.nd) dgs_nil)))) (fun _ _ _ _ _ => dts_nil) (fun _ _ _ _ _ => (dd_of (cC c_fraction_less hr hg (da_cons (de_arg (vV 5)) (da_cons (de_arg (cC c_fraction_times hr hg (da_cons (de_arg (de_tup (da_cons (de_arg (vV 3)) (da_cons (de_arg de_int) da_nil)))) (da_cons (de_arg (vV 6)) da_nil)))) da_nil))))) rfl)
    (dss_one (ds_setCF (i := 2) (own := [("x", 5)]) rfl sc_row_poly.nd rfl rfl (by rfl) (di_seq (dd_of (vV 7))) (blkOk_by (N := N_row_poly) (sc := (defScope s_row_poly)) (own := [("x", 5)]) (by decide +kernel)) (fun _ _ _ _ _ => (gN 5 sc_row_poly.nd)) (fun _ _ _ _ _ => dts_nil) (fun _ _ _ _ _ => (dd_of (cC c_fraction_times hr hg (da_cons (de_arg (de_tup (da_cons (de_arg de_int) (da_cons (de_arg (de_bin opd_add (vB 3) de_int)) da_nil)))) (da_cons (de_arg (vV 5)) da_nil))))) rfl)))))
    (dss_one (ds_ret (cC c_row_of hr hg (da_cons (de_arg (vV 1)) da_nil))))))
theorem ok_row_through (z : Zs mg K) (y : SysAt base) {f : Addr} {fd : FuncData} (Fu : Fun K "row_through" "row_through" s_row_through f fd) (c_row_of : Cal P w K mg base 1 "row_of" ["some"] fm_row_of) (c_fraction_less : Cal P w K mg base 2 "fraction_less" ["a", "b"] fm_fraction_less) : FnD P w K mg base 3 f fd ["worths"] fm_row_through := by
  refine fnd_ok (N := N_row_through) (k := 2) Fu sc_row_through fun cdv A outer s H F l hr hg => ?_
  have hu := units_of hr
  exact (dss_cons (ds_parF (i := 1) (j := 2) rfl sc_row_through.nd rfl rfl (by decide) rfl rfl (de_lst da_nil) (de_arg (de_callTy calld_list (by rfl) z.list bt_list (da_cons (vB 0) da_nil))) (by rfl))
    (dss_cons (ds_while fuel_row_through PassesOwn.never (dt_cmp (opd_ne (hu64 hu)) (vB 2) (de_lst da_nil) (nomark _)) (dss_cons (ds_expr (de_append (pv 1) (dd_of (de_ix (vB 2) de_int))))
    (dss_one (ds_setCF (i := 2) (own := [("early", 3), ("late", 4)]) rfl sc_row_through.nd rfl rfl (by rfl) (di_zip (by rfl) z.zip (da_cons (de_arg (vV 2)) (da_cons (de_arg (de_slice (vB 2) (do_some (dd_of de_int)) do_none)) da_nil))) (blkOk_by (N := N_row_through) (sc := (defScope s_row_through)) (own := [("early", 3), ("late", 4)]) (by decide +kernel)) (fun _ _ _ _ _ => (dg_tup rfl (dgs_cons (gN 3 sc_row_through.nd) (dgs_cons (gN 4 sc_row_through.nd) dgs_nil)))) (fun _ _ _ _ _ => dts_nil) (fun _ _ _ _ _ => (dd_of (cC c_fraction_less hr hg (da_cons (de_arg (vV 4)) (da_cons (de_arg (vV 3)) da_nil))))) rfl))))
    (dss_one (ds_ret (cC c_row_of hr hg (da_cons (de_arg (vV 1)) da_nil))))))
theorem ok_row_of_poly (z : Zs mg K) (y : SysAt base) {f : Addr} {fd : FuncData} (Fu : Fun K "row_of_poly" "row_of_poly" s_row_of_poly f fd) (c_row_through : Cal P w K mg base 3 "row_through" ["worths"] fm_row_through) (c_fraction_sum : Cal P w K mg base 2 "fraction_sum" ["a", "b"] fm_fraction_sum) (c_fraction_times : Cal P w K mg base 2 "fraction_times" ["a", "b"] fm_fraction_times) : FnD P w K mg base 4 f fd ["poly"] fm_row_of_poly := by
  refine fnd_ok (N := N_row_of_poly) (k := 3) Fu sc_row_of_poly fun cdv A outer s H F l hr hg => ?_
  have hu := units_of hr
  exact (dss_cons (sSet 1 sc_row_of_poly.nd (de_lst da_nil))
    (dss_cons (ds_for PassesOwn.never rfl (di_range1 (by rfl) z.range (da_cons (de_callB calld_len (by rfl) z.len bt_len (da_cons (vB 0) da_nil)) da_nil)) (gN 2 sc_row_of_poly.nd) (dss_cons (sSet 3 sc_row_of_poly.nd (de_konst (by rfl) z.ZERO))
    (dss_cons (ds_for PassesOwn.never rfl (di_seq (dd_of (de_rev (vB 0)))) (gN 4 sc_row_of_poly.nd) (dss_one (sSet 3 sc_row_of_poly.nd (de_arg (cC c_fraction_sum hr hg (da_cons (de_arg (cC c_fraction_times hr hg (da_cons (de_arg (vV 3)) (da_cons (de_arg (de_tup (da_cons (de_arg (vV 2)) (da_cons (de_arg de_int) da_nil)))) da_nil)))) (da_cons (de_arg (vV 4)) da_nil)))))))
    (dss_one (ds_expr (de_append (pv 1) (dd_of (vV 3))))))))
    (dss_one (ds_ret (cC c_row_through hr hg (da_cons (de_arg (vV 1)) da_nil))))))
theorem ok__law_open_cells (z : Zs mg K) (y : SysAt base) {f : Addr} {fd : FuncData} (Fu : Fun K "_law_open_cells" "_law_open_cells" s__law_open_cells f fd)  : FnD P w K mg base 1 f fd ["script"] fm__law_open_cells := by
  refine fnd_ok (N := N__law_open_cells) (k := 0) Fu sc__law_open_cells fun cdv A outer s H F l hr hg => ?_
  have hu := units_of hr
  exact (dss_cons (sSet 1 sc__law_open_cells.nd de_int)
    (dss_cons (ds_for PassesOwn.never rfl (di_scr (vB 0)) (gN 2 sc__law_open_cells.nd) (dss_one (sSet 1 sc__law_open_cells.nd (de_bin opd_mod (de_callTy calld_int (by rfl) z.int bt_int (da_cons (de_bin opd_add (de_bin opd_add (de_bin opd_mul (vB 1) de_int) (de_bin opd_mul (vB 2) de_int)) de_int) da_nil)) de_int))))
    (dss_cons (ds_setCF (i := 3) (own := [("cell", 2)]) rfl sc__law_open_cells.nd rfl rfl (by rfl) (di_scr (vB 0)) (blkOk_by (N := N__law_open_cells) (sc := (defScope s__law_open_cells)) (own := [("cell", 2)]) (by decide +kernel)) (fun _ _ _ _ _ => (gN 2 sc__law_open_cells.nd)) (fun _ _ _ _ _ => dts_nil) (fun _ _ _ _ _ => (dd_of (de_callB calld_abs (by rfl) z.abs bt_abs (da_cons (vB 2) da_nil)))) rfl)
    (dss_one (ds_ret (de_srcNew (de_rev (vB 3)) de_int (vV 1) de_int))))))
theorem ok__law_pick (z : Zs mg K) (y : SysAt base) {f : Addr} {fd : FuncData} (Fu : Fun K "_law_pick" "_law_pick" s__law_pick f fd)  : FnD P w K mg base 1 f fd ["source", "most"] fm__law_pick := by
  refine fnd_ok (N := N__law_pick) (k := 0) Fu sc__law_pick fun cdv A outer s H F l hr hg => ?_
  have hu := units_of hr
  exact (dss_cons (ds_if (dt_cmp (opd_ltX (hu64 hu)) (vB 1) de_int (nomark _)) (dss_one (ds_ret de_int)) dss_nil)
    (dss_cons (sSet 2 sc__law_pick.nd (de_srcGet (hu1 hu) (vB 0)))
    (dss_cons (ds_while fuel__law_pick PassesOwn.never (DW.dt (dw_and (dt_cmp (opd_ltX (hu64 hu)) (de_srcGet (hu1 hu) (vB 0)) de_int (nomark _)) (dw_and1 (dt_cmp (opd_gtX (hu64 hu)) (de_srcLen (by rfl) z.len (vB 2)) de_int (nomark _))))) (dss_one (ds_srcPut (hu1 hu) (de_srcPop (vB 2)) (vB 0))))
    (dss_cons (sSet 3 sc__law_pick.nd (de_srcGet (hu1 hu) (vB 0)))
    (dss_cons (ds_if (dt_cmp (opd_gtX (hu64 hu)) (vB 3) de_int (nomark _)) (dss_cons (ds_srcPut (hu1 hu) (de_bin opd_fdiv (vB 3) (vB 1)) (vB 0))
    (dss_one (ds_ret (de_bin opd_mod (de_callTy calld_int (by rfl) z.int bt_int (da_cons (vB 3) da_nil)) (vB 1))))) dss_nil)
    (dss_cons (ds_srcPut (hu1 hu) (de_bin opd_add (de_srcGet (hu1 hu) (vB 0)) de_int) (vB 0))
    (dss_cons (sSet 4 sc__law_pick.nd (de_srcGet (hu1 hu) (vB 0)))
    (dss_cons (sSet 5 sc__law_pick.nd (de_bin opd_mod (de_callTy calld_int (by rfl) z.int bt_int (da_cons (de_bin opd_add (de_srcGet (hu1 hu) (vB 0)) (de_bin opd_mul (vB 4) de_int)) da_nil)) de_int))
    (dss_cons (sSet 5 sc__law_pick.nd (de_bin opd_mod (de_callTy calld_int (by rfl) z.int bt_int (da_cons (de_bin opd_add (de_bin opd_mul (vB 5) (vB 5)) (de_bin opd_mul (vB 4) de_int)) da_nil)) de_int))
    (dss_one (ds_ret (de_bin opd_mod (de_callTy calld_int (by rfl) z.int bt_int (da_cons (de_bin opd_fdiv (vB 5) de_int) da_nil)) (vB 1)))))))))))))
theorem ok__law_of (z : Zs mg K) (y : SysAt base) {f : Addr} {fd : FuncData} (Fu : Fun K "_law_of" "_law_of" s__law_of f fd) (c__law_pick : Cal P w K mg base 1 "_law_pick" ["source", "most"] fm__law_pick) : FnD P w K mg base 2 f fd ["source", "some"] fm__law_of := by
  refine fnd_ok (N := N__law_of) (k := 1) Fu sc__law_of fun cdv A outer s H F l hr hg => ?_
  have hu := units_of hr
  exact (dss_one (ds_ret (de_ix (vB 1) (cC c__law_pick hr hg (da_cons (de_arg (vV 0)) (da_cons (de_arg (de_callB calld_len (by rfl) z.len bt_len (da_cons (vB 1) da_nil))) da_nil))))))
theorem ok__law_is_int (z : Zs mg K) (y : SysAt base) {f : Addr} {fd : FuncData} (Fu : Fun K "_law_is_int" "_law_is_int" s__law_is_int f fd)  : FnD P w K mg base 1 f fd ["value"] fm__law_is_int := by
  refine fnd_ok (N := N__law_is_int) (k := 0) Fu sc__law_is_int fun cdv A outer s H F l hr hg => ?_
  have hu := units_of hr
  exact (dss_one (ds_ret (de_and (de_isi isi_int (by rfl) z.isinstance (by rfl) z.int bt_int (vB 0)) (de_one (de_not (de_isi isi_bool (by rfl) z.isinstance (by rfl) z.bool bt_bool (vB 0)))))))
theorem ok__law_fraction (z : Zs mg K) (y : SysAt base) {f : Addr} {fd : FuncData} (Fu : Fun K "_law_fraction" "_law_fraction" s__law_fraction f fd)  : FnD P w K mg base 1 f fd ["p", "q"] fm__law_fraction := by
  refine fnd_ok (N := N__law_fraction) (k := 0) Fu sc__law_fraction fun cdv A outer s H F l hr hg => ?_
  have hu := units_of hr
  exact (dss_cons (ds_par (i := 2) (j := 3) rfl sc__law_fraction.nd rfl rfl (by decide) rfl rfl (da_cons (de_arg (de_callB calld_abs (by rfl) z.abs bt_abs (da_cons (vB 0) da_nil))) (da_cons (de_arg (de_callB calld_abs (by rfl) z.abs bt_abs (da_cons (vB 1) da_nil))) da_nil)) (by rfl))
    (dss_cons (ds_while fuel__law_fraction PassesOwn.never (dt_cmp (opd_gtX (hu64 hu)) (vB 3) de_int (nomark _)) (dss_one (ds_par (i := 2) (j := 3) rfl sc__law_fraction.nd rfl rfl (by decide) rfl rfl (da_cons (de_arg (vV 3)) (da_cons (de_arg (de_bin opd_mod (de_callTy calld_int (by rfl) z.int bt_int (da_cons (vB 2) da_nil)) (vB 3))) da_nil)) (by rfl))))
    (dss_cons (sSet 4 sc__law_fraction.nd (de_if (dt_cmp (opd_gtX (hu64 hu)) (vB 1) de_int (nomark _)) de_int (de_bin opd_sub de_int de_int)))
    (dss_one (ds_ret (de_tup (da_cons (de_arg (de_bin opd_fdiv (de_bin opd_mul (vB 4) (vB 0)) (vB 2))) (da_cons (de_arg (de_bin opd_fdiv (de_bin opd_mul (vB 4) (vB 1)) (vB 2))) da_nil))))))))
theorem ok__law_plus (z : Zs mg K) (y : SysAt base) {f : Addr} {fd : FuncData} (Fu : Fun K "_law_plus" "_law_plus" s__law_plus f fd) (c__law_fraction : Cal P w K mg base 1 "_law_fraction" ["p", "q"] fm__law_fraction) : FnD P w K mg base 2 f fd ["a", "b"] fm__law_plus := by
  refine fnd_ok (N := N__law_plus) (k := 1) Fu sc__law_plus fun cdv A outer s H F l hr hg => ?_
  have hu := units_of hr
  exact (dss_one (ds_ret (cC c__law_fraction hr hg (da_cons (de_arg (de_bin opd_add (de_bin opd_mul (de_ix (vB 0) de_int) (de_ix (vB 1) de_int)) (de_bin opd_mul (de_ix (vB 1) de_int) (de_ix (vB 0) de_int)))) (da_cons (de_arg (de_bin opd_mul (de_ix (vB 0) de_int) (de_ix (vB 1) de_int))) da_nil)))))
theorem ok__law_by (z : Zs mg K) (y : SysAt base) {f : Addr} {fd : FuncData} (Fu : Fun K "_law_by" "_law_by" s__law_by f fd) (c__law_fraction : Cal P w K mg base 1 "_law_fraction" ["p", "q"] fm__law_fraction) : FnD P w K mg base 2 f fd ["a", "b"] fm__law_by := by
  refine fnd_ok (N := N__law_by) (k := 1) Fu sc__law_by fun cdv A outer s H F l hr hg => ?_
  have hu := units_of hr
  exact (dss_one (ds_ret (cC c__law_fraction hr hg (da_cons (de_arg (de_bin opd_mul (de_ix (vB 0) de_int) (de_ix (vB 1) de_int))) (da_cons (de_arg (de_bin opd_mul (de_ix (vB 0) de_int) (de_ix (vB 1) de_int))) da_nil)))))
theorem ok__law_trimmed (z : Zs mg K) (y : SysAt base) {f : Addr} {fd : FuncData} (Fu : Fun K "_law_trimmed" "_law_trimmed" s__law_trimmed f fd)  : FnD P w K mg base 1 f fd ["some"] fm__law_trimmed := by
  refine fnd_ok (N := N__law_trimmed) (k := 0) Fu sc__law_trimmed fun cdv A outer s H F l hr hg => ?_
  have hu := units_of hr
  exact (dss_cons (sSet 1 sc__law_trimmed.nd (de_callTy calld_list (by rfl) z.list bt_list (da_cons (vB 0) da_nil)))
    (dss_cons (ds_while fuel__law_trimmed PassesOwn.never (DW.dt (dw_and (dt_cmp (opd_ne (hu64 hu)) (vB 1) (de_lst da_nil) (nomark _)) (dw_and1 (dt_cmp (opd_eq (hu64 hu)) (de_ix (vB 1) (de_un und_neg de_int)) (de_tup (da_cons (de_arg de_int) (da_cons (de_arg de_int) da_nil))) (nomark _))))) (dss_one (ds_expr (de_pop (pv 1)))))
    (dss_one (ds_ret (de_callTy calld_tuple (by rfl) z.tuple bt_tuple (da_cons (vB 1) da_nil))))))
theorem ok__law_number (z : Zs mg K) (y : SysAt base) {f : Addr} {fd : FuncData} (Fu : Fun K "_law_number" "_law_number" s__law_number f fd) (c__law_fraction : Cal P w K mg base 1 "_law_fraction" ["p", "q"] fm__law_fraction) (c__law_of : Cal P w K mg base 2 "_law_of" ["source", "some"] fm__law_of) : FnD P w K mg base 3 f fd ["source"] fm__law_number := by
  refine fnd_ok (N := N__law_number) (k := 2) Fu sc__law_number fun cdv A outer s H F l hr hg => ?_
  have hu := units_of hr
  exact (dss_one (ds_ret (cC c__law_fraction hr hg (da_cons (de_arg (cC c__law_of hr hg (da_cons (de_arg (vV 0)) (da_cons (de_arg (de_lst (da_cons (de_arg de_int) (da_cons (de_arg de_int) (da_cons (de_arg (de_un und_neg de_int)) (da_cons (de_arg de_int) (da_cons (de_arg (de_un und_neg de_int)) (da_cons (de_arg de_int) (da_cons (de_arg de_int) da_nil))))))))) da_nil)))) (da_cons (de_arg (cC c__law_of hr hg (da_cons (de_arg (vV 0)) (da_cons (de_arg (de_lst (da_cons (de_arg de_int) (da_cons (de_arg de_int) (da_cons (de_arg de_int) (da_cons (de_arg de_int) (da_cons (de_arg de_int) da_nil))))))) da_nil)))) da_nil)))))
theorem ok__law_is_fraction (z : Zs mg K) (y : SysAt base) {f : Addr} {fd : FuncData} (Fu : Fun K "_law_is_fraction" "_law_is_fraction" s__law_is_fraction f fd) (c__law_fraction : Cal P w K mg base 1 "_law_fraction" ["p", "q"] fm__law_fraction) (c__law_is_int : Cal P w K mg base 1 "_law_is_int" ["value"] fm__law_is_int) : FnD P w K mg base 2 f fd ["value"] fm__law_is_fraction := by
  refine fnd_ok (N := N__law_is_fraction) (k := 1) Fu sc__law_is_fraction fun cdv A outer s H F l hr hg => ?_
  have hu := units_of hr
  exact (dss_cons (ds_if (DW.dt (dw_or (dt_not (dt_val (de_isi isi_tuple (by rfl) z.isinstance (by rfl) z.tuple bt_tuple (vB 0)))) (dw_or (dt_cmp (opd_ne (hu64 hu)) (de_callB calld_len (by rfl) z.len bt_len (da_cons (vB 0) da_nil)) de_int (nomark _)) (dw_or1 (dt_cmp (opd_ne (hu64 hu)) (de_comp (own := [("x", 1)]) rfl sc__law_is_fraction.nd (di_seq (dd_of (vV 0))) (blkOk_by (N := N__law_is_fraction) (sc := (defScope s__law_is_fraction)) (own := [("x", 1)]) (by decide +kernel)) (fun _ _ _ _ _ => (gN 1 sc__law_is_fraction.nd)) (fun _ _ _ _ _ => (dts_one (dt_not (dt_val (cC c__law_is_int hr hg (da_cons (de_arg (vV 1)) da_nil)))))) (fun _ _ _ _ _ => (dd_of (vV 1))) rfl) (de_lst da_nil) (nomark _)))))) (dss_one (ds_ret de_bool)) dss_nil)
    (dss_one (ds_ret (de_and (de_cmp (opd_gtX (hu64 hu)) (de_ix (vB 0) de_int) de_int (nomark _)) (de_one (de_cmp (opd_eq (hu64 hu)) (cC c__law_fraction hr hg (da_cons (de_arg (de_ix (vB 0) de_int)) (da_cons (de_arg (de_ix (vB 0) de_int)) da_nil))) (vB 0) (nomark _)))))))
theorem ok__law_choose (z : Zs mg K) (y : SysAt base) {f : Addr} {fd : FuncData} (Fu : Fun K "_law_choose" "_law_choose" s__law_choose f fd)  : FnD P w K mg base 1 f fd ["n", "k"] fm__law_choose := by
  refine fnd_ok (N := N__law_choose) (k := 0) Fu sc__law_choose fun cdv A outer s H F l hr hg => ?_
  have hu := units_of hr
  exact (dss_cons (ds_asgP (dd_of (de_tup (da_cons (de_arg de_int) (da_cons (de_arg de_int) da_nil)))) (dg_tup rfl (dgs_cons (gN 2 sc__law_choose.nd) (dgs_cons (gN 3 sc__law_choose.nd) dgs_nil))))
    (dss_cons (ds_for PassesOwn.never rfl (di_range1 (by rfl) z.range (da_cons (vB 1) da_nil)) (gN 4 sc__law_choose.nd) (dss_one (ds_par (i := 2) (j := 3) rfl sc__law_choose.nd rfl rfl (by decide) rfl rfl (da_cons (de_arg (de_bin opd_mul (vB 2) (de_bin opd_sub (vB 0) (vB 4)))) (da_cons (de_arg (de_bin opd_mul (vB 3) (de_bin opd_add (vB 4) de_int))) da_nil)) (by rfl))))
    (dss_one (ds_ret (de_bin opd_fdiv (vB 2) (vB 3))))))
theorem ok__law_row_at (z : Zs mg K) (y : SysAt base) {f : Addr} {fd : FuncData} (Fu : Fun K "_law_row_at" "_law_row_at" s__law_row_at f fd) (c__law_plus : Cal P w K mg base 2 "_law_plus" ["a", "b"] fm__law_plus) (c__law_by : Cal P w K mg base 2 "_law_by" ["a", "b"] fm__law_by) (c__law_choose : Cal P w K mg base 1 "_law_choose" ["n", "k"] fm__law_choose) : FnD P w K mg base 3 f fd ["row", "n"] fm__law_row_at := by
  refine fnd_ok (N := N__law_row_at) (k := 2) Fu sc__law_row_at fun cdv A outer s H F l hr hg => ?_
  have hu := units_of hr
  exact (dss_cons (sSet 2 sc__law_row_at.nd (de_tup (da_cons (de_arg de_int) (da_cons (de_arg de_int) da_nil))))
    (dss_cons (ds_for PassesOwn.never rfl (di_enum (by rfl) z.enumerate (da_cons (de_arg (vV 0)) da_nil)) (dg_tup rfl (dgs_cons (gN 3 sc__law_row_at.nd) (dgs_cons (gN 4 sc__law_row_at.nd) dgs_nil))) (dss_one (sSet 2 sc__law_row_at.nd (de_arg (cC c__law_plus hr hg (da_cons (de_arg (vV 2)) (da_cons (de_arg (cC c__law_by hr hg (da_cons (de_arg (de_tup (da_cons (de_arg (cC c__law_choose hr hg (da_cons (de_arg (vV 1)) (da_cons (de_arg (vV 3)) da_nil)))) (da_cons (de_arg de_int) da_nil)))) (da_cons (de_arg (vV 4)) da_nil)))) da_nil)))))))
    (dss_one (ds_retV (pv 2)))))
theorem ok__law_minus (z : Zs mg K) (y : SysAt base) {f : Addr} {fd : FuncData} (Fu : Fun K "_law_minus" "_law_minus" s__law_minus f fd) (c__law_plus : Cal P w K mg base 2 "_law_plus" ["a", "b"] fm__law_plus) : FnD P w K mg base 3 f fd ["a", "b"] fm__law_minus := by
  refine fnd_ok (N := N__law_minus) (k := 2) Fu sc__law_minus fun cdv A outer s H F l hr hg => ?_
  have hu := units_of hr
  exact (dss_one (ds_ret (cC c__law_plus hr hg (da_cons (de_arg (vV 0)) (da_cons (de_arg (de_tup (da_cons (de_arg (de_bin opd_sub de_int (de_ix (vB 1) de_int))) (da_cons (de_arg (de_ix (vB 1) de_int)) da_nil)))) da_nil)))))
theorem ok__law_is_row (z : Zs mg K) (y : SysAt base) {f : Addr} {fd : FuncData} (Fu : Fun K "_law_is_row" "_law_is_row" s__law_is_row f fd) (c__law_is_fraction : Cal P w K mg base 2 "_law_is_fraction" ["value"] fm__law_is_fraction) : FnD P w K mg base 3 f fd ["value"] fm__law_is_row := by
  refine fnd_ok (N := N__law_is_row) (k := 2) Fu sc__law_is_row fun cdv A outer s H F l hr hg => ?_
  have hu := units_of hr
  exact (dss_cons (ds_if (DW.dt (dw_or (dt_not (dt_val (de_isi isi_tuple (by rfl) z.isinstance (by rfl) z.tuple bt_tuple (vB 0)))) (dw_or1 (dt_cmp (opd_ne (hu64 hu)) (de_comp (own := [("c", 1)]) rfl sc__law_is_row.nd (di_seq (dd_of (vV 0))) (blkOk_by (N := N__law_is_row) (sc := (defScope s__law_is_row)) (own := [("c", 1)]) (by decide +kernel)) (fun _ _ _ _ _ => (gN 1 sc__law_is_row.nd)) (fun _ _ _ _ _ => (dts_one (dt_not (dt_val (cC c__law_is_fraction hr hg (da_cons (de_arg (vV 1)) da_nil)))))) (fun _ _ _ _ _ => (dd_of (vV 1))) rfl) (de_lst da_nil) (nomark _))))) (dss_one (ds_ret de_bool)) dss_nil)
    (dss_one (ds_ret (de_or (de_cmp (opd_eq (hu64 hu)) (vB 0) (de_tup da_nil) (nomark _)) (de_one (de_cmp (opd_ne (hu64 hu)) (de_ix (vB 0) (de_un und_neg de_int)) (de_tup (da_cons (de_arg de_int) (da_cons (de_arg de_int) da_nil))) (nomark _)))))))
theorem ok__law_through (z : Zs mg K) (y : SysAt base) {f : Addr} {fd : FuncData} (Fu : Fun K "_law_through" "_law_through" s__law_through f fd) (c__law_trimmed : Cal P w K mg base 1 "_law_trimmed" ["some"] fm__law_trimmed) (c__law_minus : Cal P w K mg base 3 "_law_minus" ["a", "b"] fm__law_minus) (c__law_row_at : Cal P w K mg base 3 "_law_row_at" ["row", "n"] fm__law_row_at) : FnD P w K mg base 4 f fd ["worths"] fm__law_through := by
  refine fnd_ok (N := N__law_through) (k := 3) Fu sc__law_through fun cdv A outer s H F l hr hg => ?_
  have hu := units_of hr
  exact (dss_cons (sSet 1 sc__law_through.nd (de_lst da_nil))
    (dss_cons (ds_for PassesOwn.never rfl (di_enum (by rfl) z.enumerate (da_cons (de_arg (vV 0)) da_nil)) (dg_tup rfl (dgs_cons (gN 2 sc__law_through.nd) (dgs_cons (gN 3 sc__law_through.nd) dgs_nil))) (dss_one (ds_expr (de_append (pv 1) (dd_of (cC c__law_minus hr hg (da_cons (de_arg (vV 3)) (da_cons (de_arg (de_thaw (cC c__law_row_at hr hg (da_cons (de_arg (vV 1)) (da_cons (de_arg (vV 2)) da_nil))))) da_nil))))))))
    (dss_one (ds_ret (cC c__law_trimmed hr hg (da_cons (de_arg (vV 1)) da_nil))))))
theorem ok__law_poly_at (z : Zs mg K) (y : SysAt base) {f : Addr} {fd : FuncData} (Fu : Fun K "_law_poly_at" "_law_poly_at" s__law_poly_at f fd) (c__law_plus : Cal P w K mg base 2 "_law_plus" ["a", "b"] fm__law_plus) (c__law_by : Cal P w K mg base 2 "_law_by" ["a", "b"] fm__law_by) : FnD P w K mg base 3 f fd ["poly", "n"] fm__law_poly_at := by
  refine fnd_ok (N := N__law_poly_at) (k := 2) Fu sc__law_poly_at fun cdv A outer s H F l hr hg => ?_
  have hu := units_of hr
  exact (dss_cons (sSet 2 sc__law_poly_at.nd (de_tup (da_cons (de_arg de_int) (da_cons (de_arg de_int) da_nil))))
    (dss_cons (ds_for PassesOwn.never rfl (di_seq (dd_of (de_rev (vB 0)))) (gN 3 sc__law_poly_at.nd) (dss_one (sSet 2 sc__law_poly_at.nd (de_arg (cC c__law_plus hr hg (da_cons (de_arg (cC c__law_by hr hg (da_cons (de_arg (vV 2)) (da_cons (de_arg (de_tup (da_cons (de_arg (vV 1)) (da_cons (de_arg de_int) da_nil)))) da_nil)))) (da_cons (de_arg (vV 3)) da_nil)))))))
    (dss_one (ds_retV (pv 2)))))
theorem ok_law (z : Zs mg K) (y : SysAt base) {f : Addr} {fd : FuncData} (Fu : Fun K "law" "law" s_law f fd) (c_row_poly : Cal P w K mg base 3 "row_poly" ["row"] fm_row_poly) (c_row_through : Cal P w K mg base 3 "row_through" ["worths"] fm_row_through) (c_row_at : Cal P w K mg base 3 "row_at" ["row", "n"] fm_row_at) (c__law_pick : Cal P w K mg base 1 "_law_pick" ["source", "most"] fm__law_pick) (c__law_trimmed : Cal P w K mg base 1 "_law_trimmed" ["some"] fm__law_trimmed) (c_row_of_poly : Cal P w K mg base 4 "row_of_poly" ["poly"] fm_row_of_poly) (c__law_is_row : Cal P w K mg base 3 "_law_is_row" ["value"] fm__law_is_row) (c__law_poly_at : Cal P w K mg base 3 "_law_poly_at" ["poly", "n"] fm__law_poly_at) (c__law_row_at : Cal P w K mg base 3 "_law_row_at" ["row", "n"] fm__law_row_at) (c__law_of : Cal P w K mg base 2 "_law_of" ["source", "some"] fm__law_of) (c__law_through : Cal P w K mg base 4 "_law_through" ["worths"] fm__law_through) (c__law_number : Cal P w K mg base 3 "_law_number" ["source"] fm__law_number) (c__law_open_cells : Cal P w K mg base 1 "_law_open_cells" ["script"] fm__law_open_cells) : FnD P w K mg base 5 f fd ["script"] fm_law := by
  refine fnd_ok (N := N_law) (k := 4) Fu sc_law fun cdv A outer s H F l hr hg => ?_
  have hu := units_of hr
  exact (dss_cons (sSet 1 sc_law.nd (de_arg (cC c__law_open_cells hr hg (da_cons (de_arg (vV 0)) da_nil))))
    (dss_cons (ds_for PassesOwn.never rfl (di_range1 (by rfl) z.range (da_cons de_int da_nil)) (gN 2 sc_law.nd) (dss_cons (sSet 3 sc_law.nd (cC c__law_pick hr hg (da_cons (de_arg (vV 1)) (da_cons (de_arg de_int) da_nil))))
    (dss_cons (ds_setCF (i := 4) (own := [("turn", 5)]) rfl sc_law.nd rfl rfl (by rfl) (di_range1 (by rfl) z.range (da_cons (vB 3) da_nil)) (blkOk_by (N := N_law) (sc := (defScope s_law)) (own := [("turn", 5)]) (by decide +kernel)) (fun _ _ _ _ _ => (gN 5 sc_law.nd)) (fun _ _ _ _ _ => dts_nil) (fun _ _ _ _ _ => (dd_of (de_if (dt_cmp (opd_gtX (hu64 hu)) (cC c__law_pick hr hg (da_cons (de_arg (vV 1)) (da_cons (de_arg de_int) da_nil))) de_int (nomark _)) (cC c__law_number hr hg (da_cons (de_arg (vV 1)) da_nil)) (de_tup (da_cons (de_arg de_int) (da_cons (de_arg de_int) da_nil)))))) rfl)
    (dss_cons (sSet 6 sc_law.nd (de_arg (cC c_row_through hr hg (da_cons (de_arg (de_callTy calld_list (by rfl) z.list bt_list (da_cons (vB 4) da_nil))) da_nil))))
    (dss_cons (ds_if (DW.dt (dw_or (dt_cmp (opd_ne (hu64 hu)) (de_repr hg y hu (by rfl) z.repr (dd_of (de_lst (da_cons (de_arg (vV 6)) (da_cons (de_arg (cC c_row_through hr hg (da_cons (de_arg (de_callTy calld_tuple (by rfl) z.tuple bt_tuple (da_cons (vB 4) da_nil))) da_nil))) da_nil))))) (de_repr hg y hu (by rfl) z.repr (dd_of (de_bin opd_mul (de_lst (da_cons (de_arg (cC c__law_through hr hg (da_cons (de_arg (vV 4)) da_nil))) da_nil)) de_int))) (nomark _)) (dw_or1 (dt_cmp (opd_gtX (hu64 hu)) (de_callB calld_len (by rfl) z.len bt_len (da_cons (vB 6) da_nil)) (vB 3) (nomark _))))) (dss_one (ds_ret de_bool)) dss_nil)
    (dss_cons (ds_if (dt_cmp (opd_ne (hu64 hu)) (de_repr hg y hu (by rfl) z.repr (dd_of (de_comp (own := [("n", 7)]) rfl sc_law.nd (di_range1 (by rfl) z.range (da_cons (vB 3) da_nil)) (blkOk_by (N := N_law) (sc := (defScope s_law)) (own := [("n", 7)]) (by decide +kernel)) (fun _ _ _ _ _ => (gN 7 sc_law.nd)) (fun _ _ _ _ _ => dts_nil) (fun _ _ _ _ _ => (dd_of (cC c_row_at hr hg (da_cons (de_arg (vV 6)) (da_cons (de_arg (vV 7)) da_nil))))) rfl))) (de_repr hg y hu (by rfl) z.repr (dd_of (vV 4))) (nomark _)) (dss_one (ds_ret de_bool)) dss_nil)
    (dss_cons (sSet 8 sc_law.nd (de_arg (cC c_row_poly hr hg (da_cons (de_arg (vV 6)) da_nil))))
    (dss_cons (sSet 7 sc_law.nd (de_arg (cC c__law_of hr hg (da_cons (de_arg (vV 1)) (da_cons (de_arg (de_lst (da_cons (de_arg (cC c__law_pick hr hg (da_cons (de_arg (vV 1)) (da_cons (de_arg de_int) da_nil)))) (da_cons (de_arg (de_bin opd_sub de_int (cC c__law_pick hr hg (da_cons (de_arg (vV 1)) (da_cons (de_arg de_int) da_nil))))) (da_cons (de_arg (de_bin opd_sub (de_bin opd_pow de_int de_int) de_int)) da_nil))))) da_nil)))))
    (dss_cons (ds_if (DW.dt (dw_or (dt_not (dt_val (cC c__law_is_row hr hg (da_cons (de_arg (vV 8)) da_nil)))) (dw_or (dt_cmp (opd_ne (hu64 hu)) (de_callB calld_len (by rfl) z.len bt_len (da_cons (vB 8) da_nil)) (de_callB calld_len (by rfl) z.len bt_len (da_cons (vB 6) da_nil)) (nomark _)) (dw_or1 (dt_cmp (opd_ne (hu64 hu)) (de_repr hg y hu (by rfl) z.repr (dd_of (cC c__law_poly_at hr hg (da_cons (de_arg (vV 8)) (da_cons (de_arg (vV 7)) da_nil))))) (de_repr hg y hu (by rfl) z.repr (dd_of (cC c__law_row_at hr hg (da_cons (de_arg (vV 6)) (da_cons (de_arg (vV 7)) da_nil))))) (nomark _)))))) (dss_one (ds_ret de_bool)) dss_nil)
    (dss_cons (ds_if (DW.dt (dw_or (dt_cmp (opd_ne (hu64 hu)) (de_repr hg y hu (by rfl) z.repr (dd_of (cC c_row_of_poly hr hg (da_cons (de_arg (vV 8)) da_nil)))) (de_repr hg y hu (by rfl) z.repr (dd_of (vV 6))) (nomark _)) (dw_or1 (dt_cmp (opd_ne (hu64 hu)) (de_repr hg y hu (by rfl) z.repr (dd_of (cC c_row_poly hr hg (da_cons (de_arg (cC c_row_of_poly hr hg (da_cons (de_arg (vV 6)) da_nil))) da_nil)))) (de_repr hg y hu (by rfl) z.repr (dd_of (vV 6))) (nomark _))))) (dss_one (ds_ret de_bool)) dss_nil)
    (dss_cons (sSet 9 sc_law.nd (de_arg (cC c__law_trimmed hr hg (da_cons (de_arg (de_comp (own := [("turn", 5)]) rfl sc_law.nd (di_range1 (by rfl) z.range (da_cons (vB 3) da_nil)) (blkOk_by (N := N_law) (sc := (defScope s_law)) (own := [("turn", 5)]) (by decide +kernel)) (fun _ _ _ _ _ => (gN 5 sc_law.nd)) (fun _ _ _ _ _ => dts_nil) (fun _ _ _ _ _ => (dd_of (de_tup (da_cons (de_arg (de_bin opd_sub (cC c__law_pick hr hg (da_cons (de_arg (vV 1)) (da_cons (de_arg de_int) da_nil))) de_int)) (da_cons (de_arg de_int) da_nil))))) rfl)) da_nil))))
    (dss_cons (ds_if (dt_cmp (opd_ne (hu64 hu)) (de_comp (own := [("i", 10)]) rfl sc_law.nd (di_range2 (by rfl) z.range (da_cons (de_un und_neg de_int) (da_cons de_int da_nil))) (blkOk_by (N := N_law) (sc := (defScope s_law)) (own := [("i", 10)]) (by decide +kernel)) (fun _ _ _ _ _ => (gN 10 sc_law.nd)) (fun _ _ _ _ _ => (dts_one (dt_cmp (opd_ne (hu64 hu)) (de_ix (cC c_row_at hr hg (da_cons (de_arg (vV 9)) (da_cons (de_arg (vV 10)) da_nil))) de_int) de_int (nomark _)))) (fun _ _ _ _ _ => (dd_of de_int)) rfl) (de_lst da_nil) (nomark _)) (dss_one (ds_ret de_bool)) dss_nil)
    (dss_cons (sSet 11 sc_law.nd (de_cmp (opd_eq (hu64 hu)) (de_comp (own := [("c", 12)]) rfl sc_law.nd (di_seq (dd_of (vV 6))) (blkOk_by (N := N_law) (sc := (defScope s_law)) (own := [("c", 12)]) (by decide +kernel)) (fun _ _ _ _ _ => (gN 12 sc_law.nd)) (fun _ _ _ _ _ => (dts_one (dt_cmp (opd_ne (hu64 hu)) (de_ix (vB 12) de_int) de_int (nomark _)))) (fun _ _ _ _ _ => (dd_of (vV 12))) rfl) (de_lst da_nil) (nomark _)))
    (dss_cons (ds_if (dt_cmp (opd_ne (hu64 hu)) (de_cmp (opd_eq (hu64 hu)) (de_comp (own := [("i", 10)]) rfl sc_law.nd (di_range1 (by rfl) z.range (da_cons (vB 3) da_nil)) (blkOk_by (N := N_law) (sc := (defScope s_law)) (own := [("i", 10)]) (by decide +kernel)) (fun _ _ _ _ _ => (gN 10 sc_law.nd)) (fun _ _ _ _ _ => (dts_one (dt_cmp (opd_ne (hu64 hu)) (de_ix (cC c_row_at hr hg (da_cons (de_arg (vV 6)) (da_cons (de_arg (vV 10)) da_nil))) de_int) de_int (nomark _)))) (fun _ _ _ _ _ => (dd_of de_int)) rfl) (de_lst da_nil) (nomark _)) (vB 11) (nomark _)) (dss_one (ds_ret de_bool)) dss_nil)
    (dss_cons (sSet 13 sc_law.nd (de_bin opd_add de_int (cC c__law_pick hr hg (da_cons (de_arg (vV 1)) (da_cons (de_arg de_int) da_nil)))))
    (dss_cons (ds_setCF (i := 14) (own := [("i", 10)]) rfl sc_law.nd rfl rfl (by rfl) (di_range1 (by rfl) z.range (da_cons (vB 3) da_nil)) (blkOk_by (N := N_law) (sc := (defScope s_law)) (own := [("i", 10)]) (by decide +kernel)) (fun _ _ _ _ _ => (gN 10 sc_law.nd)) (fun _ _ _ _ _ => (dts_one (dt_cmp (opd_ne (hu64 hu)) (de_bin opd_mod (de_callTy calld_int (by rfl) z.int bt_int (da_cons (de_ix (cC c_row_at hr hg (da_cons (de_arg (vV 9)) (da_cons (de_arg (vV 10)) da_nil))) de_int) da_nil)) (vB 13)) de_int (nomark _)))) (fun _ _ _ _ _ => (dd_of (vV 10))) rfl)
    (dss_one (ds_if (dt_cmp (opd_ne (hu64 hu)) (de_cmp (opd_eq (hu64 hu)) (vB 14) (de_lst da_nil) (nomark _)) (de_cmp (opd_eq (hu64 hu)) (de_comp (own := [("c", 12)]) rfl sc_law.nd (di_seq (dd_of (vV 9))) (blkOk_by (N := N_law) (sc := (defScope s_law)) (own := [("c", 12)]) (by decide +kernel)) (fun _ _ _ _ _ => (gN 12 sc_law.nd)) (fun _ _ _ _ _ => (dts_one (dt_cmp (opd_ne (hu64 hu)) (de_bin opd_mod (de_callTy calld_int (by rfl) z.int bt_int (da_cons (de_ix (vB 12) de_int) da_nil)) (vB 13)) de_int (nomark _)))) (fun _ _ _ _ _ => (dd_of (vV 12))) rfl) (de_lst da_nil) (nomark _)) (nomark _)) (dss_one (ds_ret de_bool)) dss_nil))))))))))))))))))
    (dss_one (ds_ret (de_and (de_cmp (opd_eq (hu64 hu)) (cC c_row_poly hr hg (da_cons (de_arg (de_tup (da_cons (de_arg (de_tup (da_cons (de_arg de_int) (da_cons (de_arg de_int) da_nil)))) (da_cons (de_arg (de_tup (da_cons (de_arg de_int) (da_cons (de_arg de_int) da_nil)))) (da_cons (de_arg (de_tup (da_cons (de_arg de_int) (da_cons (de_arg de_int) da_nil)))) da_nil))))) da_nil)) (de_tup (da_cons (de_arg (de_tup (da_cons (de_arg de_int) (da_cons (de_arg de_int) da_nil)))) (da_cons (de_arg (de_tup (da_cons (de_arg (de_un und_neg de_int)) (da_cons (de_arg de_int) da_nil)))) (da_cons (de_arg (de_tup (da_cons (de_arg de_int) (da_cons (de_arg de_int) da_nil)))) da_nil)))) (nomark _)) (de_one (de_cmp (opd_eq (hu64 hu)) (cC c_row_through hr hg (da_cons (de_arg (de_lst da_nil)) da_nil)) (de_tup da_nil) (nomark _))))))))
end
theorem all_mk {l : PySem.W.OpenLaw} {w : World} {K : PySem.W.Frag} {h : Heap} {mg : Str → Option Value} {fa f0 f1 f2 f3 f4 f5 f6 f7 f8 f9 f10 f11 f12 f13 f14 f15 f16 f17 f18 f19 f20 f21 f22 f23 f24 f25 f26 f27 : Addr} (X : K.In h) (G : h.Ns mainGlobals mg) (hfa : mg "law" = some (.ref fa))
    {od0 an0 : Option Addr} {sl0 : Array (Option Value)} {oc0 kV0 dc0 pm0 cd0 ct0 : Value}
    (a0 : PySem.W.nsIn K mainGlobals "fraction_of" = some (some (.ref f0))) (l0 : K.lookup f0 = some ⟨oc0, od0, .func (PySem.W.fnOf "fraction_of" "fraction_of" (defArgs s_fraction_of) (defBody s_fraction_of) (defScope s_fraction_of) .none kV0 dc0 pm0 an0 cd0 ct0), sl0⟩) (c0 : PySem.W.codeIn K cd0 "fraction_of" = true) (k0 : PySem.W.keepIn K (.ref f0) = true)
    {od1 an1 : Option Addr} {sl1 : Array (Option Value)} {oc1 kV1 dc1 pm1 cd1 ct1 : Value}
    (a1 : PySem.W.nsIn K mainGlobals "fraction_sum" = some (some (.ref f1))) (l1 : K.lookup f1 = some ⟨oc1, od1, .func (PySem.W.fnOf "fraction_sum" "fraction_sum" (defArgs s_fraction_sum) (defBody s_fraction_sum) (defScope s_fraction_sum) .none kV1 dc1 pm1 an1 cd1 ct1), sl1⟩) (c1 : PySem.W.codeIn K cd1 "fraction_sum" = true) (k1 : PySem.W.keepIn K (.ref f1) = true)
    {od2 an2 : Option Addr} {sl2 : Array (Option Value)} {oc2 kV2 dc2 pm2 cd2 ct2 : Value}
    (a2 : PySem.W.nsIn K mainGlobals "fraction_less" = some (some (.ref f2))) (l2 : K.lookup f2 = some ⟨oc2, od2, .func (PySem.W.fnOf "fraction_less" "fraction_less" (defArgs s_fraction_less) (defBody s_fraction_less) (defScope s_fraction_less) .none kV2 dc2 pm2 an2 cd2 ct2), sl2⟩) (c2 : PySem.W.codeIn K cd2 "fraction_less" = true) (k2 : PySem.W.keepIn K (.ref f2) = true)
    {od3 an3 : Option Addr} {sl3 : Array (Option Value)} {oc3 kV3 dc3 pm3 cd3 ct3 : Value}
    (a3 : PySem.W.nsIn K mainGlobals "fraction_times" = some (some (.ref f3))) (l3 : K.lookup f3 = some ⟨oc3, od3, .func (PySem.W.fnOf "fraction_times" "fraction_times" (defArgs s_fraction_times) (defBody s_fraction_times) (defScope s_fraction_times) .none kV3 dc3 pm3 an3 cd3 ct3), sl3⟩) (c3 : PySem.W.codeIn K cd3 "fraction_times" = true) (k3 : PySem.W.keepIn K (.ref f3) = true)
    {od4 an4 : Option Addr} {sl4 : Array (Option Value)} {oc4 kV4 dc4 pm4 cd4 ct4 : Value}
    (a4 : PySem.W.nsIn K mainGlobals "choose" = some (some (.ref f4))) (l4 : K.lookup f4 = some ⟨oc4, od4, .func (PySem.W.fnOf "choose" "choose" (defArgs s_choose) (defBody s_choose) (defScope s_choose) .none kV4 dc4 pm4 an4 cd4 ct4), sl4⟩) (c4 : PySem.W.codeIn K cd4 "choose" = true) (k4 : PySem.W.keepIn K (.ref f4) = true)
    {od5 an5 : Option Addr} {sl5 : Array (Option Value)} {oc5 kV5 dc5 pm5 cd5 ct5 : Value}
    (a5 : PySem.W.nsIn K mainGlobals "row_of" = some (some (.ref f5))) (l5 : K.lookup f5 = some ⟨oc5, od5, .func (PySem.W.fnOf "row_of" "row_of" (defArgs s_row_of) (defBody s_row_of) (defScope s_row_of) .none kV5 dc5 pm5 an5 cd5 ct5), sl5⟩) (c5 : PySem.W.codeIn K cd5 "row_of" = true) (k5 : PySem.W.keepIn K (.ref f5) = true)
    {od6 an6 : Option Addr} {sl6 : Array (Option Value)} {oc6 kV6 dc6 pm6 cd6 ct6 : Value}
    (a6 : PySem.W.nsIn K mainGlobals "wide" = some (some (.ref f6))) (l6 : K.lookup f6 = some ⟨oc6, od6, .func (PySem.W.fnOf "wide" "wide" (defArgs s_wide) (defBody s_wide) (defScope s_wide) .none kV6 dc6 pm6 an6 cd6 ct6), sl6⟩) (c6 : PySem.W.codeIn K cd6 "wide" = true) (k6 : PySem.W.keepIn K (.ref f6) = true)
    {od7 an7 : Option Addr} {sl7 : Array (Option Value)} {oc7 kV7 dc7 pm7 cd7 ct7 : Value}
    (a7 : PySem.W.nsIn K mainGlobals "row_at" = some (some (.ref f7))) (l7 : K.lookup f7 = some ⟨oc7, od7, .func (PySem.W.fnOf "row_at" "row_at" (defArgs s_row_at) (defBody s_row_at) (defScope s_row_at) .none kV7 dc7 pm7 an7 cd7 ct7), sl7⟩) (c7 : PySem.W.codeIn K cd7 "row_at" = true) (k7 : PySem.W.keepIn K (.ref f7) = true)
    {od8 an8 : Option Addr} {sl8 : Array (Option Value)} {oc8 kV8 dc8 pm8 cd8 ct8 : Value}
    (a8 : PySem.W.nsIn K mainGlobals "row_poly" = some (some (.ref f8))) (l8 : K.lookup f8 = some ⟨oc8, od8, .func (PySem.W.fnOf "row_poly" "row_poly" (defArgs s_row_poly) (defBody s_row_poly) (defScope s_row_poly) .none kV8 dc8 pm8 an8 cd8 ct8), sl8⟩) (c8 : PySem.W.codeIn K cd8 "row_poly" = true) (k8 : PySem.W.keepIn K (.ref f8) = true)
    {od9 an9 : Option Addr} {sl9 : Array (Option Value)} {oc9 kV9 dc9 pm9 cd9 ct9 : Value}
    (a9 : PySem.W.nsIn K mainGlobals "row_through" = some (some (.ref f9))) (l9 : K.lookup f9 = some ⟨oc9, od9, .func (PySem.W.fnOf "row_through" "row_through" (defArgs s_row_through) (defBody s_row_through) (defScope s_row_through) .none kV9 dc9 pm9 an9 cd9 ct9), sl9⟩) (c9 : PySem.W.codeIn K cd9 "row_through" = true) (k9 : PySem.W.keepIn K (.ref f9) = true)
    {od10 an10 : Option Addr} {sl10 : Array (Option Value)} {oc10 kV10 dc10 pm10 cd10 ct10 : Value}
    (a10 : PySem.W.nsIn K mainGlobals "row_of_poly" = some (some (.ref f10))) (l10 : K.lookup f10 = some ⟨oc10, od10, .func (PySem.W.fnOf "row_of_poly" "row_of_poly" (defArgs s_row_of_poly) (defBody s_row_of_poly) (defScope s_row_of_poly) .none kV10 dc10 pm10 an10 cd10 ct10), sl10⟩) (c10 : PySem.W.codeIn K cd10 "row_of_poly" = true) (k10 : PySem.W.keepIn K (.ref f10) = true)
    {od11 an11 : Option Addr} {sl11 : Array (Option Value)} {oc11 kV11 dc11 pm11 cd11 ct11 : Value}
    (a11 : PySem.W.nsIn K mainGlobals "_law_open_cells" = some (some (.ref f11))) (l11 : K.lookup f11 = some ⟨oc11, od11, .func (PySem.W.fnOf "_law_open_cells" "_law_open_cells" (defArgs s__law_open_cells) (defBody s__law_open_cells) (defScope s__law_open_cells) .none kV11 dc11 pm11 an11 cd11 ct11), sl11⟩) (c11 : PySem.W.codeIn K cd11 "_law_open_cells" = true) (k11 : PySem.W.keepIn K (.ref f11) = true)
    {od12 an12 : Option Addr} {sl12 : Array (Option Value)} {oc12 kV12 dc12 pm12 cd12 ct12 : Value}
    (a12 : PySem.W.nsIn K mainGlobals "_law_pick" = some (some (.ref f12))) (l12 : K.lookup f12 = some ⟨oc12, od12, .func (PySem.W.fnOf "_law_pick" "_law_pick" (defArgs s__law_pick) (defBody s__law_pick) (defScope s__law_pick) .none kV12 dc12 pm12 an12 cd12 ct12), sl12⟩) (c12 : PySem.W.codeIn K cd12 "_law_pick" = true) (k12 : PySem.W.keepIn K (.ref f12) = true)
    {od13 an13 : Option Addr} {sl13 : Array (Option Value)} {oc13 kV13 dc13 pm13 cd13 ct13 : Value}
    (a13 : PySem.W.nsIn K mainGlobals "_law_of" = some (some (.ref f13))) (l13 : K.lookup f13 = some ⟨oc13, od13, .func (PySem.W.fnOf "_law_of" "_law_of" (defArgs s__law_of) (defBody s__law_of) (defScope s__law_of) .none kV13 dc13 pm13 an13 cd13 ct13), sl13⟩) (c13 : PySem.W.codeIn K cd13 "_law_of" = true) (k13 : PySem.W.keepIn K (.ref f13) = true)
    {od14 an14 : Option Addr} {sl14 : Array (Option Value)} {oc14 kV14 dc14 pm14 cd14 ct14 : Value}
    (a14 : PySem.W.nsIn K mainGlobals "_law_is_int" = some (some (.ref f14))) (l14 : K.lookup f14 = some ⟨oc14, od14, .func (PySem.W.fnOf "_law_is_int" "_law_is_int" (defArgs s__law_is_int) (defBody s__law_is_int) (defScope s__law_is_int) .none kV14 dc14 pm14 an14 cd14 ct14), sl14⟩) (c14 : PySem.W.codeIn K cd14 "_law_is_int" = true) (k14 : PySem.W.keepIn K (.ref f14) = true)
    {od15 an15 : Option Addr} {sl15 : Array (Option Value)} {oc15 kV15 dc15 pm15 cd15 ct15 : Value}
    (a15 : PySem.W.nsIn K mainGlobals "_law_fraction" = some (some (.ref f15))) (l15 : K.lookup f15 = some ⟨oc15, od15, .func (PySem.W.fnOf "_law_fraction" "_law_fraction" (defArgs s__law_fraction) (defBody s__law_fraction) (defScope s__law_fraction) .none kV15 dc15 pm15 an15 cd15 ct15), sl15⟩) (c15 : PySem.W.codeIn K cd15 "_law_fraction" = true) (k15 : PySem.W.keepIn K (.ref f15) = true)
    {od16 an16 : Option Addr} {sl16 : Array (Option Value)} {oc16 kV16 dc16 pm16 cd16 ct16 : Value}
    (a16 : PySem.W.nsIn K mainGlobals "_law_plus" = some (some (.ref f16))) (l16 : K.lookup f16 = some ⟨oc16, od16, .func (PySem.W.fnOf "_law_plus" "_law_plus" (defArgs s__law_plus) (defBody s__law_plus) (defScope s__law_plus) .none kV16 dc16 pm16 an16 cd16 ct16), sl16⟩) (c16 : PySem.W.codeIn K cd16 "_law_plus" = true) (k16 : PySem.W.keepIn K (.ref f16) = true)
    {od17 an17 : Option Addr} {sl17 : Array (Option Value)} {oc17 kV17 dc17 pm17 cd17 ct17 : Value}
    (a17 : PySem.W.nsIn K mainGlobals "_law_by" = some (some (.ref f17))) (l17 : K.lookup f17 = some ⟨oc17, od17, .func (PySem.W.fnOf "_law_by" "_law_by" (defArgs s__law_by) (defBody s__law_by) (defScope s__law_by) .none kV17 dc17 pm17 an17 cd17 ct17), sl17⟩) (c17 : PySem.W.codeIn K cd17 "_law_by" = true) (k17 : PySem.W.keepIn K (.ref f17) = true)
    {od18 an18 : Option Addr} {sl18 : Array (Option Value)} {oc18 kV18 dc18 pm18 cd18 ct18 : Value}
    (a18 : PySem.W.nsIn K mainGlobals "_law_trimmed" = some (some (.ref f18))) (l18 : K.lookup f18 = some ⟨oc18, od18, .func (PySem.W.fnOf "_law_trimmed" "_law_trimmed" (defArgs s__law_trimmed) (defBody s__law_trimmed) (defScope s__law_trimmed) .none kV18 dc18 pm18 an18 cd18 ct18), sl18⟩) (c18 : PySem.W.codeIn K cd18 "_law_trimmed" = true) (k18 : PySem.W.keepIn K (.ref f18) = true)
    {od19 an19 : Option Addr} {sl19 : Array (Option Value)} {oc19 kV19 dc19 pm19 cd19 ct19 : Value}
    (a19 : PySem.W.nsIn K mainGlobals "_law_number" = some (some (.ref f19))) (l19 : K.lookup f19 = some ⟨oc19, od19, .func (PySem.W.fnOf "_law_number" "_law_number" (defArgs s__law_number) (defBody s__law_number) (defScope s__law_number) .none kV19 dc19 pm19 an19 cd19 ct19), sl19⟩) (c19 : PySem.W.codeIn K cd19 "_law_number" = true) (k19 : PySem.W.keepIn K (.ref f19) = true)
    {od20 an20 : Option Addr} {sl20 : Array (Option Value)} {oc20 kV20 dc20 pm20 cd20 ct20 : Value}
    (a20 : PySem.W.nsIn K mainGlobals "_law_is_fraction" = some (some (.ref f20))) (l20 : K.lookup f20 = some ⟨oc20, od20, .func (PySem.W.fnOf "_law_is_fraction" "_law_is_fraction" (defArgs s__law_is_fraction) (defBody s__law_is_fraction) (defScope s__law_is_fraction) .none kV20 dc20 pm20 an20 cd20 ct20), sl20⟩) (c20 : PySem.W.codeIn K cd20 "_law_is_fraction" = true) (k20 : PySem.W.keepIn K (.ref f20) = true)
    {od21 an21 : Option Addr} {sl21 : Array (Option Value)} {oc21 kV21 dc21 pm21 cd21 ct21 : Value}
    (a21 : PySem.W.nsIn K mainGlobals "_law_choose" = some (some (.ref f21))) (l21 : K.lookup f21 = some ⟨oc21, od21, .func (PySem.W.fnOf "_law_choose" "_law_choose" (defArgs s__law_choose) (defBody s__law_choose) (defScope s__law_choose) .none kV21 dc21 pm21 an21 cd21 ct21), sl21⟩) (c21 : PySem.W.codeIn K cd21 "_law_choose" = true) (k21 : PySem.W.keepIn K (.ref f21) = true)
    {od22 an22 : Option Addr} {sl22 : Array (Option Value)} {oc22 kV22 dc22 pm22 cd22 ct22 : Value}
    (a22 : PySem.W.nsIn K mainGlobals "_law_row_at" = some (some (.ref f22))) (l22 : K.lookup f22 = some ⟨oc22, od22, .func (PySem.W.fnOf "_law_row_at" "_law_row_at" (defArgs s__law_row_at) (defBody s__law_row_at) (defScope s__law_row_at) .none kV22 dc22 pm22 an22 cd22 ct22), sl22⟩) (c22 : PySem.W.codeIn K cd22 "_law_row_at" = true) (k22 : PySem.W.keepIn K (.ref f22) = true)
    {od23 an23 : Option Addr} {sl23 : Array (Option Value)} {oc23 kV23 dc23 pm23 cd23 ct23 : Value}
    (a23 : PySem.W.nsIn K mainGlobals "_law_minus" = some (some (.ref f23))) (l23 : K.lookup f23 = some ⟨oc23, od23, .func (PySem.W.fnOf "_law_minus" "_law_minus" (defArgs s__law_minus) (defBody s__law_minus) (defScope s__law_minus) .none kV23 dc23 pm23 an23 cd23 ct23), sl23⟩) (c23 : PySem.W.codeIn K cd23 "_law_minus" = true) (k23 : PySem.W.keepIn K (.ref f23) = true)
    {od24 an24 : Option Addr} {sl24 : Array (Option Value)} {oc24 kV24 dc24 pm24 cd24 ct24 : Value}
    (a24 : PySem.W.nsIn K mainGlobals "_law_is_row" = some (some (.ref f24))) (l24 : K.lookup f24 = some ⟨oc24, od24, .func (PySem.W.fnOf "_law_is_row" "_law_is_row" (defArgs s__law_is_row) (defBody s__law_is_row) (defScope s__law_is_row) .none kV24 dc24 pm24 an24 cd24 ct24), sl24⟩) (c24 : PySem.W.codeIn K cd24 "_law_is_row" = true) (k24 : PySem.W.keepIn K (.ref f24) = true)
    {od25 an25 : Option Addr} {sl25 : Array (Option Value)} {oc25 kV25 dc25 pm25 cd25 ct25 : Value}
    (a25 : PySem.W.nsIn K mainGlobals "_law_through" = some (some (.ref f25))) (l25 : K.lookup f25 = some ⟨oc25, od25, .func (PySem.W.fnOf "_law_through" "_law_through" (defArgs s__law_through) (defBody s__law_through) (defScope s__law_through) .none kV25 dc25 pm25 an25 cd25 ct25), sl25⟩) (c25 : PySem.W.codeIn K cd25 "_law_through" = true) (k25 : PySem.W.keepIn K (.ref f25) = true)
    {od26 an26 : Option Addr} {sl26 : Array (Option Value)} {oc26 kV26 dc26 pm26 cd26 ct26 : Value}
    (a26 : PySem.W.nsIn K mainGlobals "_law_poly_at" = some (some (.ref f26))) (l26 : K.lookup f26 = some ⟨oc26, od26, .func (PySem.W.fnOf "_law_poly_at" "_law_poly_at" (defArgs s__law_poly_at) (defBody s__law_poly_at) (defScope s__law_poly_at) .none kV26 dc26 pm26 an26 cd26 ct26), sl26⟩) (c26 : PySem.W.codeIn K cd26 "_law_poly_at" = true) (k26 : PySem.W.keepIn K (.ref f26) = true)
    {od27 an27 : Option Addr} {sl27 : Array (Option Value)} {oc27 kV27 dc27 pm27 cd27 ct27 : Value}
    (a27 : PySem.W.nsIn K mainGlobals "law" = some (some (.ref f27))) (l27 : K.lookup f27 = some ⟨oc27, od27, .func (PySem.W.fnOf "law" "law" (defArgs s_law) (defBody s_law) (defScope s_law) .none kV27 dc27 pm27 an27 cd27 ct27), sl27⟩) (c27 : PySem.W.codeIn K cd27 "law" = true) (k27 : PySem.W.keepIn K (.ref f27) = true)
    (z0 : PySem.W.nsIn K mainGlobals "abs" = some none)
    (z1 : PySem.W.nsIn K mainGlobals "bool" = some none)
    (z2 : PySem.W.nsIn K mainGlobals "enumerate" = some none)
    (z3 : PySem.W.nsIn K mainGlobals "int" = some none)
    (z4 : PySem.W.nsIn K mainGlobals "isinstance" = some none)
    (z5 : PySem.W.nsIn K mainGlobals "len" = some none)
    (z6 : PySem.W.nsIn K mainGlobals "list" = some none)
    (z7 : PySem.W.nsIn K mainGlobals "range" = some none)
    (z8 : PySem.W.nsIn K mainGlobals "repr" = some none)
    (z9 : PySem.W.nsIn K mainGlobals "tuple" = some none)
    (z10 : PySem.W.nsIn K mainGlobals "zip" = some none)
    (b0_ : PySem.W.nsIn K mainGlobals "gcd" = some (some (.builtin "math.gcd")))
    {ka0 : Addr} {ko0 : Option Addr} {ki0 : Array Value} {kn0 : Nat} {ks0 : Array (Option Value)} (q0_ : PySem.W.nsIn K mainGlobals "ONE" = some (some (.ref ka0))) (r0_ : K.lookup ka0 = some ⟨.type "tuple", ko0, .seq ki0 kn0, ks0⟩) (s0_ : ki0.size ≤ 1000) (t0_ : AtomsR [(.int 1), (.int 1)] ki0.toList)
    {ka1 : Addr} {ko1 : Option Addr} {ki1 : Array Value} {kn1 : Nat} {ks1 : Array (Option Value)} (q1_ : PySem.W.nsIn K mainGlobals "ZERO" = some (some (.ref ka1))) (r1_ : K.lookup ka1 = some ⟨.type "tuple", ko1, .seq ki1 kn1, ks1⟩) (s1_ : ki1.size ≤ 1000) (t1_ : AtomsR [(.int 0), (.int 1)] ki1.toList)
    : ∃ fd : FuncData, (∀ (s : Shared) (v : Value), BindsTo s fd ⟨[v], []⟩ [("script", v)]) ∧ ∀ base : Heap, K.In base → base.Ns mainGlobals mg → SysAt base → FnD l.prog w K mg base 5 fa fd ["script"] fm_law := by
  have e := hfa.symm.trans (PySem.W.mg_of X G a27)
  cases e
  have z : Zs mg K := ⟨PySem.W.mg_none_of X G z0, PySem.W.mg_none_of X G z1, PySem.W.mg_none_of X G z2, PySem.W.mg_none_of X G z3, PySem.W.mg_none_of X G z4, PySem.W.mg_none_of X G z5, PySem.W.mg_none_of X G z6, PySem.W.mg_none_of X G z7, PySem.W.mg_none_of X G z8, PySem.W.mg_none_of X G z9, PySem.W.mg_none_of X G z10, PySem.W.mg_of X G b0_, konst_tup (PySem.W.mg_of X G q0_) r0_ s0_ t0_, konst_tup (PySem.W.mg_of X G q1_) r1_ s1_ t1_⟩
  have F0 := fun_mk (st := s_fraction_of) l0 c0 k0
  have b0 := F0.binds (ps := ["p", "q"]) fun _ _ _ _ _ _ us hl => match us, hl with | [_, _], _ => rfl
  have F1 := fun_mk (st := s_fraction_sum) l1 c1 k1
  have b1 := F1.binds (ps := ["a", "b"]) fun _ _ _ _ _ _ us hl => match us, hl with | [_, _], _ => rfl
  have F2 := fun_mk (st := s_fraction_less) l2 c2 k2
  have b2 := F2.binds (ps := ["a", "b"]) fun _ _ _ _ _ _ us hl => match us, hl with | [_, _], _ => rfl
  have F3 := fun_mk (st := s_fraction_times) l3 c3 k3
  have b3 := F3.binds (ps := ["a", "b"]) fun _ _ _ _ _ _ us hl => match us, hl with | [_, _], _ => rfl
  have F4 := fun_mk (st := s_choose) l4 c4 k4
  have b4 := F4.binds (ps := ["n", "k"]) fun _ _ _ _ _ _ us hl => match us, hl with | [_, _], _ => rfl
  have F5 := fun_mk (st := s_row_of) l5 c5 k5
  have b5 := F5.binds (ps := ["some"]) fun _ _ _ _ _ _ us hl => match us, hl with | [_], _ => rfl
  have F6 := fun_mk (st := s_wide) l6 c6 k6
  have b6 := F6.binds (ps := ["row", "many"]) fun _ _ _ _ _ _ us hl => match us, hl with | [_, _], _ => rfl
  have F7 := fun_mk (st := s_row_at) l7 c7 k7
  have b7 := F7.binds (ps := ["row", "n"]) fun _ _ _ _ _ _ us hl => match us, hl with | [_, _], _ => rfl
  have F8 := fun_mk (st := s_row_poly) l8 c8 k8
  have b8 := F8.binds (ps := ["row"]) fun _ _ _ _ _ _ us hl => match us, hl with | [_], _ => rfl
  have F9 := fun_mk (st := s_row_through) l9 c9 k9
  have b9 := F9.binds (ps := ["worths"]) fun _ _ _ _ _ _ us hl => match us, hl with | [_], _ => rfl
  have F10 := fun_mk (st := s_row_of_poly) l10 c10 k10
  have b10 := F10.binds (ps := ["poly"]) fun _ _ _ _ _ _ us hl => match us, hl with | [_], _ => rfl
  have F11 := fun_mk (st := s__law_open_cells) l11 c11 k11
  have b11 := F11.binds (ps := ["script"]) fun _ _ _ _ _ _ us hl => match us, hl with | [_], _ => rfl
  have F12 := fun_mk (st := s__law_pick) l12 c12 k12
  have b12 := F12.binds (ps := ["source", "most"]) fun _ _ _ _ _ _ us hl => match us, hl with | [_, _], _ => rfl
  have F13 := fun_mk (st := s__law_of) l13 c13 k13
  have b13 := F13.binds (ps := ["source", "some"]) fun _ _ _ _ _ _ us hl => match us, hl with | [_, _], _ => rfl
  have F14 := fun_mk (st := s__law_is_int) l14 c14 k14
  have b14 := F14.binds (ps := ["value"]) fun _ _ _ _ _ _ us hl => match us, hl with | [_], _ => rfl
  have F15 := fun_mk (st := s__law_fraction) l15 c15 k15
  have b15 := F15.binds (ps := ["p", "q"]) fun _ _ _ _ _ _ us hl => match us, hl with | [_, _], _ => rfl
  have F16 := fun_mk (st := s__law_plus) l16 c16 k16
  have b16 := F16.binds (ps := ["a", "b"]) fun _ _ _ _ _ _ us hl => match us, hl with | [_, _], _ => rfl
  have F17 := fun_mk (st := s__law_by) l17 c17 k17
  have b17 := F17.binds (ps := ["a", "b"]) fun _ _ _ _ _ _ us hl => match us, hl with | [_, _], _ => rfl
  have F18 := fun_mk (st := s__law_trimmed) l18 c18 k18
  have b18 := F18.binds (ps := ["some"]) fun _ _ _ _ _ _ us hl => match us, hl with | [_], _ => rfl
  have F19 := fun_mk (st := s__law_number) l19 c19 k19
  have b19 := F19.binds (ps := ["source"]) fun _ _ _ _ _ _ us hl => match us, hl with | [_], _ => rfl
  have F20 := fun_mk (st := s__law_is_fraction) l20 c20 k20
  have b20 := F20.binds (ps := ["value"]) fun _ _ _ _ _ _ us hl => match us, hl with | [_], _ => rfl
  have F21 := fun_mk (st := s__law_choose) l21 c21 k21
  have b21 := F21.binds (ps := ["n", "k"]) fun _ _ _ _ _ _ us hl => match us, hl with | [_, _], _ => rfl
  have F22 := fun_mk (st := s__law_row_at) l22 c22 k22
  have b22 := F22.binds (ps := ["row", "n"]) fun _ _ _ _ _ _ us hl => match us, hl with | [_, _], _ => rfl
  have F23 := fun_mk (st := s__law_minus) l23 c23 k23
  have b23 := F23.binds (ps := ["a", "b"]) fun _ _ _ _ _ _ us hl => match us, hl with | [_, _], _ => rfl
  have F24 := fun_mk (st := s__law_is_row) l24 c24 k24
  have b24 := F24.binds (ps := ["value"]) fun _ _ _ _ _ _ us hl => match us, hl with | [_], _ => rfl
  have F25 := fun_mk (st := s__law_through) l25 c25 k25
  have b25 := F25.binds (ps := ["worths"]) fun _ _ _ _ _ _ us hl => match us, hl with | [_], _ => rfl
  have F26 := fun_mk (st := s__law_poly_at) l26 c26 k26
  have b26 := F26.binds (ps := ["poly", "n"]) fun _ _ _ _ _ _ us hl => match us, hl with | [_, _], _ => rfl
  have F27 := fun_mk (st := s_law) l27 c27 k27
  refine ⟨PySem.W.fnOf "law" "law" (defArgs s_law) (defBody s_law) (defScope s_law) .none kV27 dc27 pm27 an27 cd27 ct27, fun s v => .of_eq rfl, fun base _ _ y => ?_⟩
  have c_fraction_of := cal_of (P := l.prog) (w := w) (base := base) F0 (PySem.W.mg_of X G a0) b0 (ok_fraction_of z y F0 )
  have c_fraction_sum := cal_of (P := l.prog) (w := w) (base := base) F1 (PySem.W.mg_of X G a1) b1 (ok_fraction_sum z y F1 c_fraction_of)
  have c_fraction_less := cal_of (P := l.prog) (w := w) (base := base) F2 (PySem.W.mg_of X G a2) b2 (ok_fraction_less z y F2 c_fraction_of)
  have c_fraction_times := cal_of (P := l.prog) (w := w) (base := base) F3 (PySem.W.mg_of X G a3) b3 (ok_fraction_times z y F3 c_fraction_of)
  have c_choose := cal_of (P := l.prog) (w := w) (base := base) F4 (PySem.W.mg_of X G a4) b4 (ok_choose z y F4 )
  have c_row_of := cal_of (P := l.prog) (w := w) (base := base) F5 (PySem.W.mg_of X G a5) b5 (ok_row_of z y F5 )
  have c_wide := cal_of (P := l.prog) (w := w) (base := base) F6 (PySem.W.mg_of X G a6) b6 (ok_wide z y F6 )
  have c_row_at := cal_of (P := l.prog) (w := w) (base := base) F7 (PySem.W.mg_of X G a7) b7 (ok_row_at z y F7 c_fraction_sum c_fraction_times c_choose)
  have c_row_poly := cal_of (P := l.prog) (w := w) (base := base) F8 (PySem.W.mg_of X G a8) b8 (ok_row_poly z y F8 c_row_of c_fraction_times c_fraction_less c_wide c_fraction_sum)
  have c_row_through := cal_of (P := l.prog) (w := w) (base := base) F9 (PySem.W.mg_of X G a9) b9 (ok_row_through z y F9 c_row_of c_fraction_less)
  have c_row_of_poly := cal_of (P := l.prog) (w := w) (base := base) F10 (PySem.W.mg_of X G a10) b10 (ok_row_of_poly z y F10 c_row_through c_fraction_sum c_fraction_times)
  have c__law_open_cells := cal_of (P := l.prog) (w := w) (base := base) F11 (PySem.W.mg_of X G a11) b11 (ok__law_open_cells z y F11 )
  have c__law_pick := cal_of (P := l.prog) (w := w) (base := base) F12 (PySem.W.mg_of X G a12) b12 (ok__law_pick z y F12 )
  have c__law_of := cal_of (P := l.prog) (w := w) (base := base) F13 (PySem.W.mg_of X G a13) b13 (ok__law_of z y F13 c__law_pick)
  have c__law_is_int := cal_of (P := l.prog) (w := w) (base := base) F14 (PySem.W.mg_of X G a14) b14 (ok__law_is_int z y F14 )
  have c__law_fraction := cal_of (P := l.prog) (w := w) (base := base) F15 (PySem.W.mg_of X G a15) b15 (ok__law_fraction z y F15 )
  have c__law_plus := cal_of (P := l.prog) (w := w) (base := base) F16 (PySem.W.mg_of X G a16) b16 (ok__law_plus z y F16 c__law_fraction)
  have c__law_by := cal_of (P := l.prog) (w := w) (base := base) F17 (PySem.W.mg_of X G a17) b17 (ok__law_by z y F17 c__law_fraction)
  have c__law_trimmed := cal_of (P := l.prog) (w := w) (base := base) F18 (PySem.W.mg_of X G a18) b18 (ok__law_trimmed z y F18 )
  have c__law_number := cal_of (P := l.prog) (w := w) (base := base) F19 (PySem.W.mg_of X G a19) b19 (ok__law_number z y F19 c__law_fraction c__law_of)
  have c__law_is_fraction := cal_of (P := l.prog) (w := w) (base := base) F20 (PySem.W.mg_of X G a20) b20 (ok__law_is_fraction z y F20 c__law_fraction c__law_is_int)
  have c__law_choose := cal_of (P := l.prog) (w := w) (base := base) F21 (PySem.W.mg_of X G a21) b21 (ok__law_choose z y F21 )
  have c__law_row_at := cal_of (P := l.prog) (w := w) (base := base) F22 (PySem.W.mg_of X G a22) b22 (ok__law_row_at z y F22 c__law_plus c__law_by c__law_choose)
  have c__law_minus := cal_of (P := l.prog) (w := w) (base := base) F23 (PySem.W.mg_of X G a23) b23 (ok__law_minus z y F23 c__law_plus)
  have c__law_is_row := cal_of (P := l.prog) (w := w) (base := base) F24 (PySem.W.mg_of X G a24) b24 (ok__law_is_row z y F24 c__law_is_fraction)
  have c__law_through := cal_of (P := l.prog) (w := w) (base := base) F25 (PySem.W.mg_of X G a25) b25 (ok__law_through z y F25 c__law_trimmed c__law_minus c__law_row_at)
  have c__law_poly_at := cal_of (P := l.prog) (w := w) (base := base) F26 (PySem.W.mg_of X G a26) b26 (ok__law_poly_at z y F26 c__law_plus c__law_by)
  exact ok_law z y F27 c_row_poly c_row_through c_row_at c__law_pick c__law_trimmed c_row_of_poly c__law_is_row c__law_poly_at c__law_row_at c__law_of c__law_through c__law_number c__law_open_cells
end LGk34
namespace LGk34
open PySem L2 DL
def t_fraction_of (x0 x1 : PyData) : S PyData :=
  ((sCallB pyGcd (sCons (pure x0) (sCons (pure x1) sNil))) >>= fun v1 => (sIf (sBool (sBin pyGt (pure x1) (pure (.int 0)))) (sTup (sCons (sBin pyFloorDiv (pure x0) (pure v1)) (sCons (sBin pyFloorDiv (pure x1) (pure v1)) sNil))) (sTup (sCons (sBin pyFloorDiv (sUn pyNeg (pure x0)) (pure v1)) (sCons (sBin pyFloorDiv (sUn pyNeg (pure x1)) (pure v1)) sNil)))))
theorem tf_fraction_of : ∀ x0 x1 : PyData, FnT fm_fraction_of [.d x0, .d x1] (t_fraction_of x0 x1) := fun x0 x1 => fn_ok (t := [.d x0, .d x1, .jk])
  (tr_seq (tf_setD (te_arg (tFR (te_callBN (tb_cons (tVA (tHD (vdB rfl))) (tb_cons (tVA (tHD (vdB rfl))) tb_nil)))))) fun v1 => (tr_ret (tHD (te_if (tt_bool (tVA (te_bin (tVA (tHD (vdB rfl))) (tVA (tHD te_k))))) (te_tup (ta_cons (te_arg (tFR (te_binN (tVA (tHD (vdB rfl))) (tVA (tHD (vdB rfl)))))) (ta_cons (te_arg (tFR (te_binN (tVA (tHD (vdB rfl))) (tVA (tHD (vdB rfl)))))) ta_nil))) (te_tup (ta_cons (te_arg (tFR (te_binN (tVA (te_un (tVA (tHD (vdB rfl))))) (tVA (tHD (vdB rfl)))))) (ta_cons (te_arg (tFR (te_binN (tVA (te_un (tVA (tHD (vdB rfl))))) (tVA (tHD (vdB rfl)))))) ta_nil)))))))
  (Fits.cons SS.okD (Fits.cons SS.okD (Fits.cons SS.okU Fits.nil)))
def t_fraction_sum (x0 x1 : PyData) : S PyData :=
  ((sBin pyAdd (sBin pyMul (sBin pyIx (pure x0) (pure (.int 0))) (sBin pyIx (pure x1) (pure (.int 1)))) (sBin pyMul (sBin pyIx (pure x1) (pure (.int 0))) (sBin pyIx (pure x0) (pure (.int 1))))) >>= fun y1 => ((sBin pyMul (sBin pyIx (pure x0) (pure (.int 1))) (sBin pyIx (pure x1) (pure (.int 1)))) >>= fun y2 => t_fraction_of y1 y2))
theorem tf_fraction_sum : ∀ x0 x1 : PyData, FnT fm_fraction_sum [.d x0, .d x1] (t_fraction_sum x0 x1) := fun x0 x1 => fn_ok (t := [.d x0, .d x1])
  (tr_ret (te_c2 tf_fraction_of (te_arg (tFR (te_binN (tVA (tFR (te_binN (tVA (te_bin (tVA (tHD (vdB rfl))) (tVA (tHD te_k)))) (tVA (te_bin (tVA (tHD (vdB rfl))) (tVA (tHD te_k))))))) (tVA (tFR (te_binN (tVA (te_bin (tVA (tHD (vdB rfl))) (tVA (tHD te_k)))) (tVA (te_bin (tVA (tHD (vdB rfl))) (tVA (tHD te_k)))))))))) (te_arg (tFR (te_binN (tVA (te_bin (tVA (tHD (vdB rfl))) (tVA (tHD te_k)))) (tVA (te_bin (tVA (tHD (vdB rfl))) (tVA (tHD te_k)))))))))
  (Fits.cons SS.okD (Fits.cons SS.okD Fits.nil))
def t_fraction_less (x0 x1 : PyData) : S PyData :=
  ((sBin pySub (sBin pyMul (sBin pyIx (pure x0) (pure (.int 0))) (sBin pyIx (pure x1) (pure (.int 1)))) (sBin pyMul (sBin pyIx (pure x1) (pure (.int 0))) (sBin pyIx (pure x0) (pure (.int 1))))) >>= fun y1 => ((sBin pyMul (sBin pyIx (pure x0) (pure (.int 1))) (sBin pyIx (pure x1) (pure (.int 1)))) >>= fun y2 => t_fraction_of y1 y2))
theorem tf_fraction_less : ∀ x0 x1 : PyData, FnT fm_fraction_less [.d x0, .d x1] (t_fraction_less x0 x1) := fun x0 x1 => fn_ok (t := [.d x0, .d x1])
  (tr_ret (te_c2 tf_fraction_of (te_arg (tFR (te_binN (tVA (tFR (te_binN (tVA (te_bin (tVA (tHD (vdB rfl))) (tVA (tHD te_k)))) (tVA (te_bin (tVA (tHD (vdB rfl))) (tVA (tHD te_k))))))) (tVA (tFR (te_binN (tVA (te_bin (tVA (tHD (vdB rfl))) (tVA (tHD te_k)))) (tVA (te_bin (tVA (tHD (vdB rfl))) (tVA (tHD te_k)))))))))) (te_arg (tFR (te_binN (tVA (te_bin (tVA (tHD (vdB rfl))) (tVA (tHD te_k)))) (tVA (te_bin (tVA (tHD (vdB rfl))) (tVA (tHD te_k)))))))))
  (Fits.cons SS.okD (Fits.cons SS.okD Fits.nil))
def t_fraction_times (x0 x1 : PyData) : S PyData :=
  ((sBin pyMul (sBin pyIx (pure x0) (pure (.int 0))) (sBin pyIx (pure x1) (pure (.int 0)))) >>= fun y1 => ((sBin pyMul (sBin pyIx (pure x0) (pure (.int 1))) (sBin pyIx (pure x1) (pure (.int 1)))) >>= fun y2 => t_fraction_of y1 y2))
theorem tf_fraction_times : ∀ x0 x1 : PyData, FnT fm_fraction_times [.d x0, .d x1] (t_fraction_times x0 x1) := fun x0 x1 => fn_ok (t := [.d x0, .d x1])
  (tr_ret (te_c2 tf_fraction_of (te_arg (tFR (te_binN (tVA (te_bin (tVA (tHD (vdB rfl))) (tVA (tHD te_k)))) (tVA (te_bin (tVA (tHD (vdB rfl))) (tVA (tHD te_k))))))) (te_arg (tFR (te_binN (tVA (te_bin (tVA (tHD (vdB rfl))) (tVA (tHD te_k)))) (tVA (te_bin (tVA (tHD (vdB rfl))) (tVA (tHD te_k)))))))))
  (Fits.cons SS.okD (Fits.cons SS.okD Fits.nil))
def tlb_choose_1 (p0 : PyData) (v : PyData) (q : PyData) : S (PyData) :=
  ((sBin pyFloorDiv (sBin pyMul (pure v) (sBin pySub (pure p0) (pure q))) (sBin pyAdd (pure q) (pure (.int 1)))) >>= fun v2 => pure v2)
def t_choose (x0 x1 : PyData) : S PyData :=
  ((pure (.int 1)) >>= fun v1 => (((sRange1 (pure x1)) >>= fun xs_ => foldS (fun w_ x_ => S.opt (un1 x_) >>= (tlb_choose_1 x0) w_) xs_ v1) >>= fun v5 => (pure v5)))
theorem tf_choose : ∀ x0 x1 : PyData, FnT fm_choose [.d x0, .d x1] (t_choose x0 x1) := fun x0 x1 => fn_ok (t := [.d x0, .d x1, .jk, .jk])
  (tr_seq (tf_setD te_k) fun v1 => (tr_seq (tf_for (n := 4) (tl := (fun (z_ : PyData) => [.d x0, .d x1, .va z_, .jk])) v1 (ti_range1 (tVA (tHD (vdB rfl)))) (LE.cons SS.lr (LE.cons SS.lr (LE.cons SS.ldv (LE.cons SS.lr LE.nil)))) (fun _ => rfl) (pat1 (i := 3) (n := 4) (by decide)) (fun v2 q3 => (tf_weak (fun (v4 : PyData) => v4) (tf_setV (tFR (te_binN (tVA (tFR (te_binN (vvB rfl) (tVA (tFR (te_binN (tVA (tHD (vdB rfl))) (tVA (tHD (vdB rfl))))))))) (tVA (tFR (te_binN (tVA (tHD (vdB rfl))) (tVA (tHD te_k)))))))) fun v4 => (LE.cons SS.lr (LE.cons SS.lr (LE.cons SS.lr (LE.cons SS.ldj LE.nil))))))) fun v5 => (tr_v rfl)))
  (Fits.cons SS.okD (Fits.cons SS.okD (Fits.cons SS.okU (Fits.cons SS.okU Fits.nil))))
def twc_row_of_1 (p0 : PyData) (v : PyData) : S Bool :=
  (sAndT (sBool (sBin pyGt (pure v) (pure (.int 0)))) (sBool (sBin pyEq (sBin pyIx (pure p0) (sBin pySub (pure v) (pure (.int 1)))) (pure (.tuple [(.int 0), (.int 1)])))))
def twb_row_of_2 (v : PyData) : S (PyData) :=
  ((sBin pySub (pure v) (pure (.int 1))) >>= fun v3 => pure v3)
def t_row_of (x0 : PyData) : S PyData :=
  ((sCallB DL.pyLen (sCons (pure x0) sNil)) >>= fun v1 => ((whileS (twc_row_of_1 x0) twb_row_of_2 fuel_row_of v1) >>= fun v4 => (sCallB pyTupOf (sCons (sSl (pure x0) (pure none) ((pure v4) >>= partS)) sNil))))
theorem tf_row_of : ∀ x0 : PyData, FnT fm_row_of [.d x0] (t_row_of x0) := fun x0 => fn_ok (t := [.d x0, .jk])
  (tr_seq (tf_setV (tFR (te_callBN (tb_cons (tVA (tHD (vdB rfl))) tb_nil)))) fun v1 => (tr_seq (tf_while (tl := (fun (z_ : PyData) => [.d x0, .va z_])) v1 (LE.cons SS.lr (LE.cons SS.lr LE.nil)) (fun v2 => (tt_and (tt_bool (tVA (te_bin (vvB rfl) (tVA (tHD te_k))))) (tt_bool (tVA (te_bin (tVA (te_bin (tVA (tHD (vdB rfl))) (tVA (tFR (te_binN (vvB rfl) (tVA (tHD te_k))))))) (tVA (tHD te_k))))))) (fun v2 => (tf_weak (fun (v3 : PyData) => v3) (tf_setV (tFR (te_binN (vvB rfl) (tVA (tHD te_k))))) fun v3 => (LE.cons SS.lr (LE.cons SS.lr LE.nil))))) fun v4 => (tr_ret (tFR (te_callBN (tb_cons (tVA (tFR (te_slice (tVA (tHD (vdB rfl))) to_none (to_some (td_frz (tHD (vv rfl))))))) tb_nil))))))
  (Fits.cons SS.okD (Fits.cons SS.okU Fits.nil))
def t_wide (x0 x1 : PyData) : S PyData :=
  (sLst (sStar (pure x0) (sStar (sBin pyMul (sLst (sCons (pure (.tuple [(.int 0), (.int 1)])) sNil)) (sBin pySub (pure x1) (sCallB DL.pyLen (sCons (pure x0) sNil)))) sNil)))
theorem tf_wide : ∀ x0 x1 : PyData, FnT fm_wide [.d x0, .d x1] (t_wide x0 x1) := fun x0 x1 => fn_ok (t := [.d x0, .d x1])
  (tr_ret (tFR (te_lst (ta_star (tVA (tHD (vdB rfl))) (ta_star (tVA (tFR (te_binN (tVA (tFR (te_lst (ta_cons (te_arg (tHD te_k)) ta_nil)))) (tVA (tFR (te_binN (tVA (tHD (vdB rfl))) (tVA (tFR (te_callBN (tb_cons (tVA (tHD (vdB rfl))) tb_nil)))))))))) ta_nil)))))
  (Fits.cons SS.okD (Fits.cons SS.okD Fits.nil))
def tlb_row_at_1 (p1 : PyData) (v : PyData) (q : PyData × PyData) : S (PyData) :=
  (((pure v) >>= fun y6 => (((sTup (sCons ((pure p1) >>= fun y2 => ((pure q.1) >>= fun y3 => t_choose y2 y3)) (sCons (pure (.int 1)) sNil))) >>= fun y4 => ((pure q.2) >>= fun y5 => t_fraction_times y4 y5)) >>= fun y7 => t_fraction_sum y6 y7)) >>= fun v8 => pure v8)
def t_row_at (x0 x1 : PyData) : S PyData :=
  ((pure (.tuple [(.int 0), (.int 1)])) >>= fun v1 => (((sEnum (pure x0)) >>= fun xs_ => foldS (fun w_ x_ => S.opt (un2 x_) >>= (tlb_row_at_1 x1) w_) xs_ v1) >>= fun v11 => (pure v11)))
theorem tf_row_at : ∀ x0 x1 : PyData, FnT fm_row_at [.d x0, .d x1] (t_row_at x0 x1) := fun x0 x1 => fn_ok (t := [.d x0, .d x1, .jk, .jk, .jk])
  (tr_seq (tf_setD te_k) fun v1 => (tr_seq (tf_for (n := 5) (tl := (fun (z_ : PyData) => [.d x0, .d x1, .d z_, .jk, .jk])) v1 (ti_enum (te_arg (tHD (vd rfl)))) (LE.cons SS.lr (LE.cons SS.lr (LE.cons SS.lr (LE.cons SS.lr (LE.cons SS.lr LE.nil))))) (fun _ => rfl) (pat2 (i := 3) (j := 4) (n := 5) (by decide)) (fun v2 q3 => (tf_weak (fun (v10 : PyData) => v10) (tf_setD (te_arg (te_c2 tf_fraction_sum (te_arg (tHD (vd rfl))) (te_arg (te_c2 tf_fraction_times (te_arg (tHD (te_tup (ta_cons (te_arg (te_c2 tf_choose (te_arg (tHD (vd rfl))) (te_arg (tHD (vd rfl))))) (ta_cons (te_arg (tHD te_k)) ta_nil))))) (te_arg (tHD (vd rfl)))))))) fun v10 => (LE.cons SS.lr (LE.cons SS.lr (LE.cons SS.lr (LE.cons SS.ldj (LE.cons SS.ldj LE.nil)))))))) fun v11 => (tr_d rfl)))
  (Fits.cons SS.okD (Fits.cons SS.okD (Fits.cons SS.okU (Fits.cons SS.okU (Fits.cons SS.okU Fits.nil)))))
def tlb_row_poly_1 (p0 : PyData) (v : PyData × PyData) (q : PyData × PyData) : S (PyData × PyData) :=
  ((sCompA un2 (sZip (pure v.1) ((pure v.2) >>= fun y2 => ((sCallB DL.pyLen (sCons (pure p0) sNil)) >>= fun y3 => t_wide y2 y3))) (fun q4 => ((pure q4.1) >>= fun y7 => (((pure q.2) >>= fun y5 => ((pure q4.2) >>= fun y6 => t_fraction_times y5 y6)) >>= fun y8 => t_fraction_sum y7 y8)))) >>= fun v9 => ((sCompA un2 (sZip (sLst (sCons (pure (.tuple [(.int 0), (.int 1)])) (sStar (pure v.2) sNil))) (sLst (sStar (pure v.2) (sCons (pure (.tuple [(.int 0), (.int 1)])) sNil)))) (fun q10 => ((pure q10.1) >>= fun y13 => (((sTup (sCons (pure q.1) (sCons (pure (.int 1)) sNil))) >>= fun y11 => ((pure q10.2) >>= fun y12 => t_fraction_times y11 y12)) >>= fun y14 => t_fraction_less y13 y14)))) >>= fun v15 => ((sCompA un1 (sItems (pure v15)) (fun q16 => ((sTup (sCons (pure (.int 1)) (sCons (sBin pyAdd (pure q.1) (pure (.int 1))) sNil))) >>= fun y17 => ((pure q16) >>= fun y18 => t_fraction_times y17 y18)))) >>= fun v19 => pure (v9, v19))))
def t_row_poly (x0 : PyData) : S PyData :=
  (((sCons (sBin pyMul (sLst (sCons (pure (.tuple [(.int 0), (.int 1)])) sNil)) (sCallB DL.pyLen (sCons (pure x0) sNil))) (sCons (sLst (sCons (pure (.tuple [(.int 1), (.int 1)])) sNil)) sNil)) >>= fun xs => S.opt (two xs)) >>= fun v1 => (((sEnum (pure x0)) >>= fun xs_ => foldS (fun w_ x_ => S.opt (un2 x_) >>= (tlb_row_poly_1 x0) w_) xs_ (v1.1, v1.2)) >>= fun v22 => ((pure v22.1) >>= fun y23 => t_row_of y23)))
theorem tf_row_poly : ∀ x0 : PyData, FnT fm_row_poly [.d x0] (t_row_poly x0) := fun x0 => fn_ok (t := [.d x0, .jk, .jk, .jk, .jk, .jk, .jk, .jk])
  (tr_seq (TF.to (tb := fun (v1 : PyData × PyData) => [.d x0, .d v1.1, .d v1.2, .jk, .jk, .jk, .jk, .jk]) (tf_par (ta_cons (te_arg (tFR (te_binN (tVA (tFR (te_lst (ta_cons (te_arg (tHD te_k)) ta_nil)))) (tVA (tFR (te_callBN (tb_cons (tVA (tHD (vdB rfl))) tb_nil))))))) (ta_cons (te_arg (tFR (te_lst (ta_cons (te_arg (tHD te_k)) ta_nil)))) ta_nil))) (fun _ => rfl)) fun v1 => (tr_seq (TF.to (tb := fun (v22 : PyData × PyData) => [.d x0, .d v22.1, .d v22.2, .jk, .jk, .jk, .jk, .jk]) (tf_for (n := 8) (tl := (fun (z_ : PyData × PyData) => [.d x0, .d z_.1, .d z_.2, .jk, .jk, .jk, .jk, .jk])) (v1.1, v1.2) (ti_enum (te_arg (tHD (vd rfl)))) (LE.cons SS.lr (LE.cons SS.lr (LE.cons SS.lr (LE.cons SS.lr (LE.cons SS.lr (LE.cons SS.lr (LE.cons SS.lr (LE.cons SS.lr LE.nil)))))))) (fun _ => rfl) (pat2 (i := 3) (j := 4) (n := 8) (by decide)) (fun v2 q3 => (tf_seq (TF.to (tb := fun (v11 : PyData) => [.d x0, .d v11, .d v2.2, .d q3.1, .d q3.2, .jk, .jk, .jk]) (tf_setD (te_arg (tFR (te_compA (ti_zip (te_arg (tHD (vd rfl))) (te_arg (te_c2 tf_wide (te_arg (tHD (vd rfl))) (te_arg (tFR (te_callBN (tb_cons (tVA (tHD (vdB rfl))) tb_nil))))))) rfl (pat2 (i := 5) (j := 6) (n := 8) (by decide)) (fun q6 => (td_frz (te_c2 tf_fraction_sum (te_arg (tHD (vd rfl))) (te_arg (te_c2 tf_fraction_times (te_arg (tHD (vd rfl))) (te_arg (tHD (vd rfl)))))))) (fun q6 => (LE.cons SS.lr (LE.cons SS.lr (LE.cons SS.lr (LE.cons SS.lr (LE.cons SS.lr (LE.cons SS.lr (LE.cons SS.lr (LE.cons SS.lr LE.nil))))))))) (fun q6 => (LE.cons SS.lr (LE.cons SS.lr (LE.cons SS.lr (LE.cons SS.lr (LE.cons SS.lr (LE.cons SS.lr (LE.cons SS.lr (LE.cons SS.lr LE.nil))))))))))))) (fun _ => rfl)) fun v11 => (tf_seq (TF.to (tb := fun (v17 : PyData) => [.d x0, .d v11, .d v2.2, .d q3.1, .d q3.2, .jk, .jk, .d v17]) (tf_setD (te_arg (tFR (te_compA (ti_zip (te_arg (tFR (te_lst (ta_cons (te_arg (tHD te_k)) (ta_star (tVA (tHD (vdB rfl))) ta_nil))))) (te_arg (tFR (te_lst (ta_star (tVA (tHD (vdB rfl))) (ta_cons (te_arg (tHD te_k)) ta_nil)))))) rfl (pat2 (i := 5) (j := 6) (n := 8) (by decide)) (fun q12 => (td_frz (te_c2 tf_fraction_less (te_arg (tHD (vd rfl))) (te_arg (te_c2 tf_fraction_times (te_arg (tHD (te_tup (ta_cons (te_arg (tHD (vd rfl))) (ta_cons (te_arg (tHD te_k)) ta_nil))))) (te_arg (tHD (vd rfl)))))))) (fun q12 => (LE.cons SS.lr (LE.cons SS.lr (LE.cons SS.lr (LE.cons SS.lr (LE.cons SS.lr (LE.cons SS.lr (LE.cons SS.lr (LE.cons SS.lr LE.nil))))))))) (fun q12 => (LE.cons SS.lr (LE.cons SS.lr (LE.cons SS.lr (LE.cons SS.lr (LE.cons SS.lr (LE.cons SS.lr (LE.cons SS.lr (LE.cons SS.lr LE.nil))))))))))))) (fun _ => rfl)) fun v17 => (tf_weak (fun (v21 : PyData) => (v11, v21)) (tf_setD (te_arg (tFR (te_compA (ti_items (td_frz (tHD (vd rfl)))) rfl (pat1 (i := 5) (n := 8) (by decide)) (fun q18 => (td_frz (te_c2 tf_fraction_times (te_arg (tHD (te_tup (ta_cons (te_arg (tHD te_k)) (ta_cons (te_arg (tFR (te_binN (tVA (tHD (vdB rfl))) (tVA (tHD te_k))))) ta_nil))))) (te_arg (tHD (vd rfl)))))) (fun q18 => (LE.cons SS.lr (LE.cons SS.lr (LE.cons SS.lr (LE.cons SS.lr (LE.cons SS.lr (LE.cons SS.lr (LE.cons SS.lr (LE.cons SS.lr LE.nil))))))))) (fun q18 => (LE.cons SS.lr (LE.cons SS.lr (LE.cons SS.lr (LE.cons SS.lr (LE.cons SS.lr (LE.cons SS.lr (LE.cons SS.lr (LE.cons SS.lr LE.nil))))))))))))) fun v21 => (LE.cons SS.lr (LE.cons SS.lr (LE.cons SS.lr (LE.cons SS.ldj (LE.cons SS.ldj (LE.cons SS.lr (LE.cons SS.lr (LE.cons SS.ldj LE.nil))))))))))))) (fun _ => rfl)) fun v22 => (tr_ret (te_c1 tf_row_of (te_arg (tHD (vd rfl)))))))
  (Fits.cons SS.okD (Fits.cons SS.okU (Fits.cons SS.okU (Fits.cons SS.okU (Fits.cons SS.okU (Fits.cons SS.okU (Fits.cons SS.okU (Fits.cons SS.okU Fits.nil))))))))
def twc_row_through_1 (v : PyData × PyData) : S Bool :=
  (sBool (sBin pyNe (pure v.2) (sLst sNil)))
def twb_row_through_2 (v : PyData × PyData) : S (PyData × PyData) :=
  (((sBin pyIx (pure v.2) (pure (.int 0))) >>= fun y5 => appS v.1 y5) >>= fun v6 => ((sCompA un2 (sZip (pure v.2) (sSl (pure v.2) ((pure (.int 1)) >>= partS) (pure none))) (fun q7 => ((pure q7.2) >>= fun y8 => ((pure q7.1) >>= fun y9 => t_fraction_less y8 y9)))) >>= fun v10 => pure (v6, v10)))
def t_row_through (x0 : PyData) : S PyData :=
  (((sLst sNil) >>= fun y1 => (sCallB pyListOf (sCons (pure x0) sNil)) >>= fun y2 => pure (y1, y2)) >>= fun v3 => ((whileS twc_row_through_1 twb_row_through_2 fuel_row_through (v3.1, v3.2)) >>= fun v11 => ((pure v11.1) >>= fun y12 => t_row_of y12)))
theorem tf_row_through : ∀ x0 : PyData, FnT fm_row_through [.d x0] (t_row_through x0) := fun x0 => fn_ok (t := [.d x0, .jk, .jk, .jk, .jk])
  (tr_seq (tf_parF stoF stoD (fun _ _ _ _ h => h) (te_lst ta_nil) (te_arg (tFR (te_callBN (tb_cons (tVA (tHD (vdB rfl))) tb_nil))))) fun v3 => (tr_seq (tf_while (tl := (fun (z_ : PyData × PyData) => [.d x0, .ow z_.1, .d z_.2, .jk, .jk])) (v3.1, v3.2) (LE.cons SS.lr (LE.cons SS.lr (LE.cons SS.lr (LE.cons SS.lr (LE.cons SS.lr LE.nil))))) (fun v4 => (tt_bool (tVA (te_bin (tVA (tHD (vdB rfl))) (tVA (tFR (te_lst ta_nil))))))) (fun v4 => (tf_seq (tf_append rfl (td_frz (te_bin (tVA (tHD (vdB rfl))) (tVA (tHD te_k)))) rfl) fun v6 => (tf_weak (fun (v10 : PyData) => (v6, v10)) (tf_setD (te_arg (tFR (te_compA (ti_zip (te_arg (tHD (vd rfl))) (te_arg (tFR (te_slice (tVA (tHD (vdB rfl))) (to_some (td_frz (tHD te_k))) to_none)))) rfl (pat2 (i := 3) (j := 4) (n := 5) (by decide)) (fun q7 => (td_frz (te_c2 tf_fraction_less (te_arg (tHD (vd rfl))) (te_arg (tHD (vd rfl)))))) (fun q7 => (LE.cons SS.lr (LE.cons SS.lr (LE.cons SS.lr (LE.cons SS.lr (LE.cons SS.lr LE.nil)))))) (fun q7 => (LE.cons SS.lr (LE.cons SS.lr (LE.cons SS.lr (LE.cons SS.lr (LE.cons SS.lr LE.nil)))))))))) fun v10 => (LE.cons SS.lr (LE.cons SS.lr (LE.cons SS.lr (LE.cons SS.lr (LE.cons SS.lr LE.nil))))))))) fun v11 => (tr_ret (te_c1 tf_row_of (te_arg (tHD (vo rfl)))))))
  (Fits.cons SS.okD (Fits.cons SS.okU (Fits.cons SS.okU (Fits.cons SS.okU (Fits.cons SS.okU Fits.nil)))))
def tlb_row_of_poly_1 (p2 : PyData) (v : PyData) (q : PyData) : S (PyData) :=
  ((((pure v) >>= fun y3 => ((sTup (sCons (pure p2) (sCons (pure (.int 1)) sNil))) >>= fun y4 => t_fraction_times y3 y4)) >>= fun y5 => ((pure q) >>= fun y6 => t_fraction_sum y5 y6)) >>= fun v7 => pure v7)
def tlb_row_of_poly_2 (p0 : PyData) (v : PyData) (q : PyData) : S (PyData) :=
  ((pure (.tuple [(.int 0), (.int 1)])) >>= fun v2 => (((sItems (sUn pyRev (pure p0))) >>= fun xs_ => foldS (fun w_ x_ => S.opt (un1 x_) >>= (tlb_row_of_poly_1 q) w_) xs_ v2) >>= fun v10 => (((pure v10) >>= fun y11 => appS v y11) >>= fun v12 => pure v12)))
def t_row_of_poly (x0 : PyData) : S PyData :=
  ((sLst sNil) >>= fun v1 => (((sRange1 (sCallB DL.pyLen (sCons (pure x0) sNil))) >>= fun xs_ => foldS (fun w_ x_ => S.opt (un1 x_) >>= (tlb_row_of_poly_2 x0) w_) xs_ v1) >>= fun v15 => ((pure v15) >>= fun y16 => t_row_through y16)))
theorem tf_row_of_poly : ∀ x0 : PyData, FnT fm_row_of_poly [.d x0] (t_row_of_poly x0) := fun x0 => fn_ok (t := [.d x0, .jk, .jk, .jk, .jk])
  (tr_seq (tf_setF (te_lst ta_nil)) fun v1 => (tr_seq (tf_for (n := 5) (tl := (fun (z_ : PyData) => [.d x0, .ow z_, .jk, .jk, .jk])) v1 (ti_range1 (tVA (tFR (te_callBN (tb_cons (tVA (tHD (vdB rfl))) tb_nil))))) (LE.cons SS.lr (LE.cons SS.lr (LE.cons SS.lr (LE.cons SS.lr (LE.cons SS.lr LE.nil))))) (fun _ => rfl) (pat1 (i := 2) (n := 5) (by decide)) (fun v2 q3 => (tf_seq (tf_setD te_k) fun v4 => (tf_seq (tf_for (n := 5) (tl := (fun (z_ : PyData) => [.d x0, .ow v2, .d q3, .d z_, .jk])) v4 (ti_items (td_frz (tFR (te_unN (tVA (tHD (vdB rfl))))))) (LE.cons SS.lr (LE.cons SS.lr (LE.cons SS.lr (LE.cons SS.lr (LE.cons SS.lr LE.nil))))) (fun _ => rfl) (pat1 (i := 4) (n := 5) (by decide)) (fun v5 q6 => (tf_weak (fun (v11 : PyData) => v11) (tf_setD (te_arg (te_c2 tf_fraction_sum (te_arg (te_c2 tf_fraction_times (te_arg (tHD (vd rfl))) (te_arg (tHD (te_tup (ta_cons (te_arg (tHD (vd rfl))) (ta_cons (te_arg (tHD te_k)) ta_nil))))))) (te_arg (tHD (vd rfl)))))) fun v11 => (LE.cons SS.lr (LE.cons SS.lr (LE.cons SS.lr (LE.cons SS.lr (LE.cons SS.ldj LE.nil)))))))) fun v12 => (tf_weak (fun (v14 : PyData) => v14) (tf_append rfl (td_frz (tHD (vd rfl))) rfl) fun v14 => (LE.cons SS.lr (LE.cons SS.lr (LE.cons SS.ldj (LE.cons SS.ldj (LE.cons SS.lr LE.nil)))))))))) fun v15 => (tr_ret (te_c1 tf_row_through (te_arg (tHD (vo rfl)))))))
  (Fits.cons SS.okD (Fits.cons SS.okU (Fits.cons SS.okU (Fits.cons SS.okU (Fits.cons SS.okU Fits.nil)))))
def t__law_pick (x0 : PyData) : S PyData := ofFM fm__law_pick [.src false, .d x0]
theorem tf__law_pick : ∀ x0 : PyData, FnT fm__law_pick [.src false, .d x0] (t__law_pick x0) := fun x0 => fn_of
def t__law_of (x0 : PyData) : S PyData :=
  (sBin pyIx (pure x0) ((sCallB DL.pyLen (sCons (pure x0) sNil)) >>= fun y1 => t__law_pick y1))
theorem tf__law_of : ∀ x0 : PyData, FnT fm__law_of [.src false, .d x0] (t__law_of x0) := fun x0 => fn_ok (t := [.src false, .d x0])
  (tr_ret (te_bin (tVA (tHD (vdB rfl))) (tVA (te_s1 tf__law_pick rfl (te_arg (tFR (te_callBN (tb_cons (tVA (tHD (vdB rfl))) tb_nil))))))))
  (Fits.cons SS.okS (Fits.cons SS.okD Fits.nil))
def t__law_is_int (x0 : PyData) : S PyData :=
  (sAndV (sIsi "int" (pure x0)) (sNotV (sIsi "bool" (pure x0))))
theorem tf__law_is_int : ∀ x0 : PyData, FnT fm__law_is_int [.d x0] (t__law_is_int x0) := fun x0 => fn_ok (t := [.d x0])
  (tr_ret (te_andV (tVA (tHD (te_isi (tVA (tHD (vdB rfl)))))) (tHD (te_notV (tVA (tHD (te_isi (tVA (tHD (vdB rfl))))))))))
  (Fits.cons SS.okD Fits.nil)
def twc__law_fraction_1 (v : PyData × PyData) : S Bool :=
  (sBool (sBin pyGt (pure v.2) (pure (.int 0))))
def twb__law_fraction_2 (v : PyData × PyData) : S (PyData × PyData) :=
  (((sCons (pure v.2) (sCons (sBin pyMod (sCallB pyInt (sCons (pure v.1) sNil)) (pure v.2)) sNil)) >>= fun xs => S.opt (two xs)) >>= fun v3 => pure (v3.1, v3.2))
def t__law_fraction (x0 x1 : PyData) : S PyData :=
  (((sCons (sCallB pyAbs (sCons (pure x0) sNil)) (sCons (sCallB pyAbs (sCons (pure x1) sNil)) sNil)) >>= fun xs => S.opt (two xs)) >>= fun v1 => ((whileS twc__law_fraction_1 twb__law_fraction_2 fuel__law_fraction (v1.1, v1.2)) >>= fun v4 => ((sIf (sBool (sBin pyGt (pure x1) (pure (.int 0)))) (pure (.int 1)) (sBin pySub (pure (.int 0)) (pure (.int 1)))) >>= fun v5 => (sTup (sCons (sBin pyFloorDiv (sBin pyMul (pure v5) (pure x0)) (pure v4.1)) (sCons (sBin pyFloorDiv (sBin pyMul (pure v5) (pure x1)) (pure v4.1)) sNil))))))
theorem tf__law_fraction : ∀ x0 x1 : PyData, FnT fm__law_fraction [.d x0, .d x1] (t__law_fraction x0 x1) := fun x0 x1 => fn_ok (t := [.d x0, .d x1, .jk, .jk, .jk])
  (tr_seq (tf_par (ta_cons (te_arg (tFR (te_callBN (tb_cons (tVA (tHD (vdB rfl))) tb_nil)))) (ta_cons (te_arg (tFR (te_callBN (tb_cons (tVA (tHD (vdB rfl))) tb_nil)))) ta_nil))) fun v1 => (tr_seq (tf_while (tl := (fun (z_ : PyData × PyData) => [.d x0, .d x1, .d z_.1, .d z_.2, .jk])) (v1.1, v1.2) (LE.cons SS.lr (LE.cons SS.lr (LE.cons SS.lr (LE.cons SS.lr (LE.cons SS.lr LE.nil))))) (fun v2 => (tt_bool (tVA (te_bin (tVA (tHD (vdB rfl))) (tVA (tHD te_k)))))) (fun v2 => (tf_weak (fun (v3 : PyData × PyData) => (v3.1, v3.2)) (tf_par (ta_cons (te_arg (tHD (vd rfl))) (ta_cons (te_arg (tFR (te_binN (tVA (tFR (te_callBN (tb_cons (tVA (tHD (vdB rfl))) tb_nil)))) (tVA (tHD (vdB rfl)))))) ta_nil))) fun v3 => (LE.cons SS.lr (LE.cons SS.lr (LE.cons SS.lr (LE.cons SS.lr (LE.cons SS.lr LE.nil)))))))) fun v4 => (tr_seq (tf_setV (te_if (tt_bool (tVA (te_bin (tVA (tHD (vdB rfl))) (tVA (tHD te_k))))) (tHD te_k) (tFR (te_binN (tVA (tHD te_k)) (tVA (tHD te_k)))))) fun v5 => (tr_ret (tHD (te_tup (ta_cons (te_arg (tFR (te_binN (tVA (tFR (te_binN (vvB rfl) (tVA (tHD (vdB rfl)))))) (tVA (tHD (vdB rfl)))))) (ta_cons (te_arg (tFR (te_binN (tVA (tFR (te_binN (vvB rfl) (tVA (tHD (vdB rfl)))))) (tVA (tHD (vdB rfl)))))) ta_nil))))))))
  (Fits.cons SS.okD (Fits.cons SS.okD (Fits.cons SS.okU (Fits.cons SS.okU (Fits.cons SS.okU Fits.nil)))))
def t__law_plus (x0 x1 : PyData) : S PyData :=
  ((sBin pyAdd (sBin pyMul (sBin pyIx (pure x0) (pure (.int 0))) (sBin pyIx (pure x1) (pure (.int 1)))) (sBin pyMul (sBin pyIx (pure x1) (pure (.int 0))) (sBin pyIx (pure x0) (pure (.int 1))))) >>= fun y1 => ((sBin pyMul (sBin pyIx (pure x0) (pure (.int 1))) (sBin pyIx (pure x1) (pure (.int 1)))) >>= fun y2 => t__law_fraction y1 y2))
theorem tf__law_plus : ∀ x0 x1 : PyData, FnT fm__law_plus [.d x0, .d x1] (t__law_plus x0 x1) := fun x0 x1 => fn_ok (t := [.d x0, .d x1])
  (tr_ret (te_c2 tf__law_fraction (te_arg (tFR (te_binN (tVA (tFR (te_binN (tVA (te_bin (tVA (tHD (vdB rfl))) (tVA (tHD te_k)))) (tVA (te_bin (tVA (tHD (vdB rfl))) (tVA (tHD te_k))))))) (tVA (tFR (te_binN (tVA (te_bin (tVA (tHD (vdB rfl))) (tVA (tHD te_k)))) (tVA (te_bin (tVA (tHD (vdB rfl))) (tVA (tHD te_k)))))))))) (te_arg (tFR (te_binN (tVA (te_bin (tVA (tHD (vdB rfl))) (tVA (tHD te_k)))) (tVA (te_bin (tVA (tHD (vdB rfl))) (tVA (tHD te_k)))))))))
  (Fits.cons SS.okD (Fits.cons SS.okD Fits.nil))
def t__law_by (x0 x1 : PyData) : S PyData :=
  ((sBin pyMul (sBin pyIx (pure x0) (pure (.int 0))) (sBin pyIx (pure x1) (pure (.int 0)))) >>= fun y1 => ((sBin pyMul (sBin pyIx (pure x0) (pure (.int 1))) (sBin pyIx (pure x1) (pure (.int 1)))) >>= fun y2 => t__law_fraction y1 y2))
theorem tf__law_by : ∀ x0 x1 : PyData, FnT fm__law_by [.d x0, .d x1] (t__law_by x0 x1) := fun x0 x1 => fn_ok (t := [.d x0, .d x1])
  (tr_ret (te_c2 tf__law_fraction (te_arg (tFR (te_binN (tVA (te_bin (tVA (tHD (vdB rfl))) (tVA (tHD te_k)))) (tVA (te_bin (tVA (tHD (vdB rfl))) (tVA (tHD te_k))))))) (te_arg (tFR (te_binN (tVA (te_bin (tVA (tHD (vdB rfl))) (tVA (tHD te_k)))) (tVA (te_bin (tVA (tHD (vdB rfl))) (tVA (tHD te_k)))))))))
  (Fits.cons SS.okD (Fits.cons SS.okD Fits.nil))
def twc__law_trimmed_1 (v : PyData) : S Bool :=
  (sAndT (sBool (sBin pyNe (pure v) (sLst sNil))) (sBool (sBin pyEq (sBin pyIx (pure v) (sUn pyNeg (pure (.int 1)))) (sTup (sCons (pure (.int 0)) (sCons (pure (.int 1)) sNil))))))
def twb__law_trimmed_2 (v : PyData) : S (PyData) :=
  ((popS v >>= fun q => pure q.2) >>= fun v3 => pure v3)
def t__law_trimmed (x0 : PyData) : S PyData :=
  ((sCallB pyListOf (sCons (pure x0) sNil)) >>= fun v1 => ((whileS twc__law_trimmed_1 twb__law_trimmed_2 fuel__law_trimmed v1) >>= fun v4 => (sCallB pyTupOf (sCons (pure v4) sNil))))
theorem tf__law_trimmed : ∀ x0 : PyData, FnT fm__law_trimmed [.d x0] (t__law_trimmed x0) := fun x0 => fn_ok (t := [.d x0, .jk])
  (tr_seq (tf_setF (te_callBN (tb_cons (tVA (tHD (vdB rfl))) tb_nil))) fun v1 => (tr_seq (tf_while (tl := (fun (z_ : PyData) => [.d x0, .ow z_])) v1 (LE.cons SS.lr (LE.cons SS.lr LE.nil)) (fun v2 => (tt_and (tt_bool (tVA (te_bin (voB rfl) (tVA (tFR (te_lst ta_nil)))))) (tt_bool (tVA (te_bin (tVA (te_bin (voB rfl) (tVA (te_un (tVA (tHD te_k)))))) (tVA (tHD (te_tup (ta_cons (te_arg (tHD te_k)) (ta_cons (te_arg (tHD te_k)) ta_nil)))))))))) (fun v2 => (tf_weak (fun (v3 : PyData) => v3) (tf_pop rfl) fun v3 => (LE.cons SS.lr (LE.cons SS.lr LE.nil))))) fun v4 => (tr_ret (tFR (te_callBN (tb_cons (voB rfl) tb_nil))))))
  (Fits.cons SS.okD (Fits.cons SS.okU Fits.nil))
def t__law_number : S PyData :=
  (((sLst (sCons (pure (.int 1)) (sCons (pure (.int 1)) (sCons (sUn pyNeg (pure (.int 1))) (sCons (pure (.int 2)) (sCons (sUn pyNeg (pure (.int 3))) (sCons (pure (.int 5)) (sCons (pure (.int 7)) sNil)))))))) >>= fun y1 => t__law_of y1) >>= fun y3 => (((sLst (sCons (pure (.int 1)) (sCons (pure (.int 1)) (sCons (pure (.int 1)) (sCons (pure (.int 2)) (sCons (pure (.int 3)) sNil)))))) >>= fun y2 => t__law_of y2) >>= fun y4 => t__law_fraction y3 y4))
theorem tf__law_number : FnT fm__law_number [.src false] (t__law_number ) := fn_ok (t := [.src false])
  (tr_ret (te_c2 tf__law_fraction (te_arg (te_s1 tf__law_of rfl (te_arg (tFR (te_lst (ta_cons (te_arg (tHD te_k)) (ta_cons (te_arg (tHD te_k)) (ta_cons (te_arg (te_un (tVA (tHD te_k)))) (ta_cons (te_arg (tHD te_k)) (ta_cons (te_arg (te_un (tVA (tHD te_k)))) (ta_cons (te_arg (tHD te_k)) (ta_cons (te_arg (tHD te_k)) ta_nil)))))))))))) (te_arg (te_s1 tf__law_of rfl (te_arg (tFR (te_lst (ta_cons (te_arg (tHD te_k)) (ta_cons (te_arg (tHD te_k)) (ta_cons (te_arg (tHD te_k)) (ta_cons (te_arg (tHD te_k)) (ta_cons (te_arg (tHD te_k)) ta_nil))))))))))))
  (Fits.cons SS.okS Fits.nil)
def t__law_is_fraction (x0 : PyData) : S PyData :=
  (sIf (sOrT (sNotT (sBool (sIsi "tuple" (pure x0)))) (sOrT (sBool (sBin pyNe (sCallB DL.pyLen (sCons (pure x0) sNil)) (pure (.int 2)))) (sBool (sBin pyNe (sComp un1 (sItems (pure x0)) (fun q1 => (sNotT (sBool ((pure q1) >>= fun y2 => t__law_is_int y2)))) (fun q1 => (pure q1))) (sLst sNil))))) (pure (.bool false)) (sAndV (sBin pyGt (sBin pyIx (pure x0) (pure (.int 1))) (pure (.int 0))) (sBin pyEq ((sBin pyIx (pure x0) (pure (.int 0))) >>= fun y3 => ((sBin pyIx (pure x0) (pure (.int 1))) >>= fun y4 => t__law_fraction y3 y4)) (pure x0))))
theorem tf__law_is_fraction : ∀ x0 : PyData, FnT fm__law_is_fraction [.d x0] (t__law_is_fraction x0) := fun x0 => fn_ok (t := [.d x0, .jk])
  (tr_if1 (tt_or (tt_not (tt_bool (tVA (tHD (te_isi (tVA (tHD (vdB rfl)))))))) (tt_or (tt_bool (tVA (te_bin (tVA (tFR (te_callBN (tb_cons (tVA (tHD (vdB rfl))) tb_nil)))) (tVA (tHD te_k))))) (tt_bool (tVA (te_bin (tVA (tFR (te_comp (ti_items (td_frz (tHD (vd rfl)))) rfl (pat1 (i := 1) (n := 2) (by decide)) (fun q1 => (tt_not (tt_bool (tVA (te_c1 tf__law_is_int (te_arg (tHD (vd rfl)))))))) (fun q1 => (td_frz (tHD (vd rfl)))) (fun q1 => (LE.cons SS.lr (LE.cons SS.lr LE.nil))) (fun q1 => (LE.cons SS.lr (LE.cons SS.lr LE.nil)))))) (tVA (tFR (te_lst ta_nil)))))))) (tr_ret (tHD te_k)) (tr_ret (te_andV (tVA (te_bin (tVA (te_bin (tVA (tHD (vdB rfl))) (tVA (tHD te_k)))) (tVA (tHD te_k)))) (te_bin (tVA (te_c2 tf__law_fraction (te_arg (te_bin (tVA (tHD (vdB rfl))) (tVA (tHD te_k)))) (te_arg (te_bin (tVA (tHD (vdB rfl))) (tVA (tHD te_k)))))) (tVA (tHD (vdB rfl)))))))
  (Fits.cons SS.okD (Fits.cons SS.okU Fits.nil))
def tlb__law_choose_1 (p0 : PyData) (v : PyData × PyData) (q : PyData) : S (PyData × PyData) :=
  (((sCons (sBin pyMul (pure v.1) (sBin pySub (pure p0) (pure q))) (sCons (sBin pyMul (pure v.2) (sBin pyAdd (pure q) (pure (.int 1)))) sNil)) >>= fun xs => S.opt (two xs)) >>= fun v2 => pure (v2.1, v2.2))
def t__law_choose (x0 x1 : PyData) : S PyData :=
  (((sTup (sCons (pure (.int 1)) (sCons (pure (.int 1)) sNil))) >>= fun x => S.opt (un2 x)) >>= fun v1 => (((sRange1 (pure x1)) >>= fun xs_ => foldS (fun w_ x_ => S.opt (un1 x_) >>= (tlb__law_choose_1 x0) w_) xs_ (v1.1, v1.2)) >>= fun v5 => (sBin pyFloorDiv (pure v5.1) (pure v5.2))))
theorem tf__law_choose : ∀ x0 x1 : PyData, FnT fm__law_choose [.d x0, .d x1] (t__law_choose x0 x1) := fun x0 x1 => fn_ok (t := [.d x0, .d x1, .jk, .jk, .jk])
  (tr_seq (tf_asgP (td_frz (tHD (te_tup (ta_cons (te_arg (tHD te_k)) (ta_cons (te_arg (tHD te_k)) ta_nil))))) (pat2 (i := 2) (j := 3) (n := 5) (by decide))) fun v1 => (tr_seq (tf_for (n := 5) (tl := (fun (z_ : PyData × PyData) => [.d x0, .d x1, .d z_.1, .d z_.2, .jk])) (v1.1, v1.2) (ti_range1 (tVA (tHD (vdB rfl)))) (LE.cons SS.lr (LE.cons SS.lr (LE.cons SS.lr (LE.cons SS.lr (LE.cons SS.lr LE.nil))))) (fun _ => rfl) (pat1 (i := 4) (n := 5) (by decide)) (fun v2 q3 => (tf_weak (fun (v4 : PyData × PyData) => (v4.1, v4.2)) (tf_par (ta_cons (te_arg (tFR (te_binN (tVA (tHD (vdB rfl))) (tVA (tFR (te_binN (tVA (tHD (vdB rfl))) (tVA (tHD (vdB rfl))))))))) (ta_cons (te_arg (tFR (te_binN (tVA (tHD (vdB rfl))) (tVA (tFR (te_binN (tVA (tHD (vdB rfl))) (tVA (tHD te_k)))))))) ta_nil))) fun v4 => (LE.cons SS.lr (LE.cons SS.lr (LE.cons SS.lr (LE.cons SS.lr (LE.cons SS.ldj LE.nil)))))))) fun v5 => (tr_ret (tFR (te_binN (tVA (tHD (vdB rfl))) (tVA (tHD (vdB rfl))))))))
  (Fits.cons SS.okD (Fits.cons SS.okD (Fits.cons SS.okU (Fits.cons SS.okU (Fits.cons SS.okU Fits.nil)))))
def tlb__law_row_at_1 (p1 : PyData) (v : PyData) (q : PyData × PyData) : S (PyData) :=
  (((pure v) >>= fun y6 => (((sTup (sCons ((pure p1) >>= fun y2 => ((pure q.1) >>= fun y3 => t__law_choose y2 y3)) (sCons (pure (.int 1)) sNil))) >>= fun y4 => ((pure q.2) >>= fun y5 => t__law_by y4 y5)) >>= fun y7 => t__law_plus y6 y7)) >>= fun v8 => pure v8)
def t__law_row_at (x0 x1 : PyData) : S PyData :=
  ((sTup (sCons (pure (.int 0)) (sCons (pure (.int 1)) sNil))) >>= fun v1 => (((sEnum (pure x0)) >>= fun xs_ => foldS (fun w_ x_ => S.opt (un2 x_) >>= (tlb__law_row_at_1 x1) w_) xs_ v1) >>= fun v11 => (pure v11)))
theorem tf__law_row_at : ∀ x0 x1 : PyData, FnT fm__law_row_at [.d x0, .d x1] (t__law_row_at x0 x1) := fun x0 x1 => fn_ok (t := [.d x0, .d x1, .jk, .jk, .jk])
  (tr_seq (tf_setD (te_tup (ta_cons (te_arg (tHD te_k)) (ta_cons (te_arg (tHD te_k)) ta_nil)))) fun v1 => (tr_seq (tf_for (n := 5) (tl := (fun (z_ : PyData) => [.d x0, .d x1, .d z_, .jk, .jk])) v1 (ti_enum (te_arg (tHD (vd rfl)))) (LE.cons SS.lr (LE.cons SS.lr (LE.cons SS.lr (LE.cons SS.lr (LE.cons SS.lr LE.nil))))) (fun _ => rfl) (pat2 (i := 3) (j := 4) (n := 5) (by decide)) (fun v2 q3 => (tf_weak (fun (v10 : PyData) => v10) (tf_setD (te_arg (te_c2 tf__law_plus (te_arg (tHD (vd rfl))) (te_arg (te_c2 tf__law_by (te_arg (tHD (te_tup (ta_cons (te_arg (te_c2 tf__law_choose (te_arg (tHD (vd rfl))) (te_arg (tHD (vd rfl))))) (ta_cons (te_arg (tHD te_k)) ta_nil))))) (te_arg (tHD (vd rfl)))))))) fun v10 => (LE.cons SS.lr (LE.cons SS.lr (LE.cons SS.lr (LE.cons SS.ldj (LE.cons SS.ldj LE.nil)))))))) fun v11 => (tr_d rfl)))
  (Fits.cons SS.okD (Fits.cons SS.okD (Fits.cons SS.okU (Fits.cons SS.okU (Fits.cons SS.okU Fits.nil)))))
def t__law_minus (x0 x1 : PyData) : S PyData :=
  ((pure x0) >>= fun y1 => ((sTup (sCons (sBin pySub (pure (.int 0)) (sBin pyIx (pure x1) (pure (.int 0)))) (sCons (sBin pyIx (pure x1) (pure (.int 1))) sNil))) >>= fun y2 => t__law_plus y1 y2))
theorem tf__law_minus : ∀ x0 x1 : PyData, FnT fm__law_minus [.d x0, .d x1] (t__law_minus x0 x1) := fun x0 x1 => fn_ok (t := [.d x0, .d x1])
  (tr_ret (te_c2 tf__law_plus (te_arg (tHD (vd rfl))) (te_arg (tHD (te_tup (ta_cons (te_arg (tFR (te_binN (tVA (tHD te_k)) (tVA (te_bin (tVA (tHD (vdB rfl))) (tVA (tHD te_k))))))) (ta_cons (te_arg (te_bin (tVA (tHD (vdB rfl))) (tVA (tHD te_k)))) ta_nil)))))))
  (Fits.cons SS.okD (Fits.cons SS.okD Fits.nil))
def t__law_is_row (x0 : PyData) : S PyData :=
  (sIf (sOrT (sNotT (sBool (sIsi "tuple" (pure x0)))) (sBool (sBin pyNe (sComp un1 (sItems (pure x0)) (fun q1 => (sNotT (sBool ((pure q1) >>= fun y2 => t__law_is_fraction y2)))) (fun q1 => (pure q1))) (sLst sNil)))) (pure (.bool false)) (sOrV (sBin pyEq (pure x0) (sTup sNil)) (sBin pyNe (sBin pyIx (pure x0) (sUn pyNeg (pure (.int 1)))) (sTup (sCons (pure (.int 0)) (sCons (pure (.int 1)) sNil))))))
theorem tf__law_is_row : ∀ x0 : PyData, FnT fm__law_is_row [.d x0] (t__law_is_row x0) := fun x0 => fn_ok (t := [.d x0, .jk])
  (tr_if1 (tt_or (tt_not (tt_bool (tVA (tHD (te_isi (tVA (tHD (vdB rfl)))))))) (tt_bool (tVA (te_bin (tVA (tFR (te_comp (ti_items (td_frz (tHD (vd rfl)))) rfl (pat1 (i := 1) (n := 2) (by decide)) (fun q1 => (tt_not (tt_bool (tVA (te_c1 tf__law_is_fraction (te_arg (tHD (vd rfl)))))))) (fun q1 => (td_frz (tHD (vd rfl)))) (fun q1 => (LE.cons SS.lr (LE.cons SS.lr LE.nil))) (fun q1 => (LE.cons SS.lr (LE.cons SS.lr LE.nil)))))) (tVA (tFR (te_lst ta_nil))))))) (tr_ret (tHD te_k)) (tr_ret (te_orV (tVA (te_bin (tVA (tHD (vdB rfl))) (tVA (tHD (te_tup ta_nil))))) (te_bin (tVA (te_bin (tVA (tHD (vdB rfl))) (tVA (te_un (tVA (tHD te_k)))))) (tVA (tHD (te_tup (ta_cons (te_arg (tHD te_k)) (ta_cons (te_arg (tHD te_k)) ta_nil)))))))))
  (Fits.cons SS.okD (Fits.cons SS.okU Fits.nil))
def tlb__law_through_1 (v : PyData) (q : PyData × PyData) : S (PyData) :=
  ((((pure q.2) >>= fun y4 => ((((pure v) >>= fun y2 => ((pure q.1) >>= fun y3 => t__law_row_at y2 y3)) >>= noLstS) >>= fun y5 => t__law_minus y4 y5)) >>= fun y6 => appS v y6) >>= fun v7 => pure v7)
def t__law_through (x0 : PyData) : S PyData :=
  ((sLst sNil) >>= fun v1 => (((sEnum (pure x0)) >>= fun xs_ => foldS (fun w_ x_ => S.opt (un2 x_) >>= tlb__law_through_1 w_) xs_ v1) >>= fun v10 => ((pure v10) >>= fun y11 => t__law_trimmed y11)))
theorem tf__law_through : ∀ x0 : PyData, FnT fm__law_through [.d x0] (t__law_through x0) := fun x0 => fn_ok (t := [.d x0, .jk, .jk, .jk])
  (tr_seq (tf_setF (te_lst ta_nil)) fun v1 => (tr_seq (tf_for (n := 4) (tl := (fun (z_ : PyData) => [.d x0, .ow z_, .jk, .jk])) v1 (ti_enum (te_arg (tHD (vd rfl)))) (LE.cons SS.lr (LE.cons SS.lr (LE.cons SS.lr (LE.cons SS.lr LE.nil)))) (fun _ => rfl) (pat2 (i := 2) (j := 3) (n := 4) (by decide)) (fun v2 q3 => (tf_weak (fun (v9 : PyData) => v9) (tf_append rfl (td_frz (te_c2 tf__law_minus (te_arg (tHD (vd rfl))) (te_arg (tHD (te_thaw (te_c2 tf__law_row_at (te_arg (tHD (vd rfl))) (te_arg (tHD (vd rfl))))))))) rfl) fun v9 => (LE.cons SS.lr (LE.cons SS.lr (LE.cons SS.ldj (LE.cons SS.ldj LE.nil))))))) fun v10 => (tr_ret (te_c1 tf__law_trimmed (te_arg (tHD (vo rfl)))))))
  (Fits.cons SS.okD (Fits.cons SS.okU (Fits.cons SS.okU (Fits.cons SS.okU Fits.nil))))
def tlb__law_poly_at_1 (p1 : PyData) (v : PyData) (q : PyData) : S (PyData) :=
  ((((pure v) >>= fun y2 => ((sTup (sCons (pure p1) (sCons (pure (.int 1)) sNil))) >>= fun y3 => t__law_by y2 y3)) >>= fun y4 => ((pure q) >>= fun y5 => t__law_plus y4 y5)) >>= fun v6 => pure v6)
def t__law_poly_at (x0 x1 : PyData) : S PyData :=
  ((sTup (sCons (pure (.int 0)) (sCons (pure (.int 1)) sNil))) >>= fun v1 => (((sItems (sUn pyRev (pure x0))) >>= fun xs_ => foldS (fun w_ x_ => S.opt (un1 x_) >>= (tlb__law_poly_at_1 x1) w_) xs_ v1) >>= fun v9 => (pure v9)))
theorem tf__law_poly_at : ∀ x0 x1 : PyData, FnT fm__law_poly_at [.d x0, .d x1] (t__law_poly_at x0 x1) := fun x0 x1 => fn_ok (t := [.d x0, .d x1, .jk, .jk])
  (tr_seq (tf_setD (te_tup (ta_cons (te_arg (tHD te_k)) (ta_cons (te_arg (tHD te_k)) ta_nil)))) fun v1 => (tr_seq (tf_for (n := 4) (tl := (fun (z_ : PyData) => [.d x0, .d x1, .d z_, .jk])) v1 (ti_items (td_frz (tFR (te_unN (tVA (tHD (vdB rfl))))))) (LE.cons SS.lr (LE.cons SS.lr (LE.cons SS.lr (LE.cons SS.lr LE.nil)))) (fun _ => rfl) (pat1 (i := 3) (n := 4) (by decide)) (fun v2 q3 => (tf_weak (fun (v8 : PyData) => v8) (tf_setD (te_arg (te_c2 tf__law_plus (te_arg (te_c2 tf__law_by (te_arg (tHD (vd rfl))) (te_arg (tHD (te_tup (ta_cons (te_arg (tHD (vd rfl))) (ta_cons (te_arg (tHD te_k)) ta_nil))))))) (te_arg (tHD (vd rfl)))))) fun v8 => (LE.cons SS.lr (LE.cons SS.lr (LE.cons SS.lr (LE.cons SS.ldj LE.nil))))))) fun v9 => (tr_d rfl)))
  (Fits.cons SS.okD (Fits.cons SS.okD (Fits.cons SS.okU (Fits.cons SS.okU Fits.nil))))
def tlb_law_1 (v : Unit) (q : PyData) : S (Out (Unit) (Unit)) :=
  (((pure (.int 9)) >>= fun y2 => t__law_pick y2) >>= fun v3 => ((sCompA un1 (sRange1 (pure v3)) (fun q4 => (sIf (sBool (sBin pyGt ((pure (.int 3)) >>= fun y5 => t__law_pick y5) (pure (.int 0)))) (t__law_number) (sTup (sCons (pure (.int 0)) (sCons (pure (.int 1)) sNil)))))) >>= fun v6 => (((sCallB pyListOf (sCons (pure v6) sNil)) >>= fun y7 => t_row_through y7) >>= fun v8 => (sIf (sOrT (sBool (sBin pyNe (sRepr (sLst (sCons (pure v8) (sCons ((sCallB pyTupOf (sCons (pure v6) sNil)) >>= fun y9 => t_row_through y9) sNil)))) (sRepr (sBin pyMul (sLst (sCons ((pure v6) >>= fun y10 => t__law_through y10) sNil)) (pure (.int 2)))))) (sBool (sBin pyGt (sCallB DL.pyLen (sCons (pure v8) sNil)) (pure v3)))) ((pure (.bool false)) >>= fun x => pure (.ret x)) (sIf (sBool (sBin pyNe (sRepr (sCompA un1 (sRange1 (pure v3)) (fun q11 => ((pure v8) >>= fun y12 => ((pure q11) >>= fun y13 => t_row_at y12 y13))))) (sRepr (pure v6)))) ((pure (.bool false)) >>= fun x => pure (.ret x)) (((pure v8) >>= fun y14 => t_row_poly y14) >>= fun v15 => (((sLst (sCons ((pure (.int 50)) >>= fun y16 => t__law_pick y16) (sCons (sBin pySub (pure (.int 0)) ((pure (.int 50)) >>= fun y17 => t__law_pick y17)) (sCons (sBin pySub (sBin pyPow (pure (.int 10)) (pure (.int 30))) (pure (.int 7))) sNil)))) >>= fun y18 => t__law_of y18) >>= fun v19 => (sIf (sOrT (sNotT (sBool ((pure v15) >>= fun y20 => t__law_is_row y20))) (sOrT (sBool (sBin pyNe (sCallB DL.pyLen (sCons (pure v15) sNil)) (sCallB DL.pyLen (sCons (pure v8) sNil)))) (sBool (sBin pyNe (sRepr ((pure v15) >>= fun y21 => ((pure v19) >>= fun y22 => t__law_poly_at y21 y22))) (sRepr ((pure v8) >>= fun y23 => ((pure v19) >>= fun y24 => t__law_row_at y23 y24))))))) ((pure (.bool false)) >>= fun x => pure (.ret x)) (sIf (sOrT (sBool (sBin pyNe (sRepr ((pure v15) >>= fun y25 => t_row_of_poly y25)) (sRepr (pure v8)))) (sBool (sBin pyNe (sRepr (((pure v8) >>= fun y26 => t_row_of_poly y26) >>= fun y27 => t_row_poly y27)) (sRepr (pure v8))))) ((pure (.bool false)) >>= fun x => pure (.ret x)) (((sCompA un1 (sRange1 (pure v3)) (fun q28 => (sTup (sCons (sBin pySub ((pure (.int 9)) >>= fun y29 => t__law_pick y29) (pure (.int 4))) (sCons (pure (.int 1)) sNil))))) >>= fun y30 => t__law_trimmed y30) >>= fun v31 => (sIf (sBool (sBin pyNe (sComp un1 (sRange2 (sUn pyNeg (pure (.int 6))) (pure (.int 7))) (fun q32 => (sBool (sBin pyNe (sBin pyIx ((pure v31) >>= fun y33 => ((pure q32) >>= fun y34 => t_row_at y33 y34)) (pure (.int 1))) (pure (.int 1))))) (fun q32 => (pure (.int 1)))) (sLst sNil))) ((pure (.bool false)) >>= fun x => pure (.ret x)) ((sBin pyEq (sComp un1 (sItems (pure v8)) (fun q35 => (sBool (sBin pyNe (sBin pyIx (pure q35) (pure (.int 1))) (pure (.int 1))))) (fun q35 => (pure q35))) (sLst sNil)) >>= fun v36 => (sIf (sBool (sBin pyNe (sBin pyEq (sComp un1 (sRange1 (pure v3)) (fun q37 => (sBool (sBin pyNe (sBin pyIx ((pure v8) >>= fun y38 => ((pure q37) >>= fun y39 => t_row_at y38 y39)) (pure (.int 1))) (pure (.int 1))))) (fun q37 => (pure (.int 1)))) (sLst sNil)) (pure v36))) ((pure (.bool false)) >>= fun x => pure (.ret x)) ((sBin pyAdd (pure (.int 2)) ((pure (.int 4)) >>= fun y40 => t__law_pick y40)) >>= fun v41 => ((sComp un1 (sRange1 (pure v3)) (fun q42 => (sBool (sBin pyNe (sBin pyMod (sCallB pyInt (sCons (sBin pyIx ((pure v31) >>= fun y43 => ((pure q42) >>= fun y44 => t_row_at y43 y44)) (pure (.int 0))) sNil)) (pure v41)) (pure (.int 0))))) (fun q42 => (pure q42))) >>= fun v45 => (sIf (sBool (sBin pyNe (sBin pyEq (pure v45) (sLst sNil)) (sBin pyEq (sComp un1 (sItems (pure v31)) (fun q46 => (sBool (sBin pyNe (sBin pyMod (sCallB pyInt (sCons (sBin pyIx (pure q46) (pure (.int 0))) sNil)) (pure v41)) (pure (.int 0))))) (fun q46 => (pure q46))) (sLst sNil)))) ((pure (.bool false)) >>= fun x => pure (.ret x)) (pure (.nxt ()))))))))))))))))))
def t_law (ns : List Int) : S PyData :=
  ((srcS fm__law_open_cells ns) >>= fun v1 => (((sRange1 (pure (.int 4))) >>= fun xs_ => forO (κ := Empty) (fun w_ x_ => S.opt (un1 x_) >>= tlb_law_1 w_) xs_ ()) >>= outR fun v49 => (sAndV (sBin pyEq ((sTup (sCons (sTup (sCons (pure (.int 0)) (sCons (pure (.int 1)) sNil))) (sCons (sTup (sCons (pure (.int 0)) (sCons (pure (.int 1)) sNil))) (sCons (sTup (sCons (pure (.int 1)) (sCons (pure (.int 1)) sNil))) sNil)))) >>= fun y50 => t_row_poly y50) (sTup (sCons (sTup (sCons (pure (.int 0)) (sCons (pure (.int 1)) sNil))) (sCons (sTup (sCons (sUn pyNeg (pure (.int 1))) (sCons (pure (.int 2)) sNil))) (sCons (sTup (sCons (pure (.int 1)) (sCons (pure (.int 2)) sNil))) sNil))))) (sBin pyEq ((sLst sNil) >>= fun y51 => t_row_through y51) (sTup sNil)))))
theorem tf_law (ns : List Int) : FnT fm_law [.scr ns] (t_law ns) := fn_ok (t := [.scr ns, .jk, .jk, .jk, .jk, .jk, .jk, .jk, .jk, .jk, .jk, .jk, .jk, .jk, .jk])
  (tr_seq (TF.to (tb := fun (v1 : Unit) => [.scr ns, .src false, .jk, .jk, .jk, .jk, .jk, .jk, .jk, .jk, .jk, .jk, .jk, .jk, .jk]) (tf_source rfl) (fun _ => rfl)) fun v1 => (tr_out (κ := Empty) (tl := nofun) (tb_for (n := 15) (tn := (fun (z_ : Unit) => [.scr ns, .src false, .jk, .any, .jk, .jk, .jk, .jk, .jk, .jk, .jk, .any, .jk, .any, .jk])) () (ti_range1 (tVA (tHD te_k))) (LE.cons SS.lr (LE.cons SS.lr (LE.cons SS.lr (LE.cons SS.la (LE.cons SS.lr (LE.cons SS.lr (LE.cons SS.lr (LE.cons SS.lr (LE.cons SS.lr (LE.cons SS.lr (LE.cons SS.lr (LE.cons SS.la (LE.cons SS.lr (LE.cons SS.la (LE.cons SS.lr LE.nil))))))))))))))) (fun _ => rfl) (pat1 (i := 2) (n := 15) (by decide)) (fun v2 q3 => (tb_seq (TF.to (tb := fun (v5 : PyData) => [.scr ns, .src false, .d q3, .va v5, .jk, .jk, .jk, .jk, .jk, .jk, .jk, .any, .jk, .any, .jk]) (tf_setV (te_s1 tf__law_pick rfl (te_arg (tHD te_k)))) (fun _ => rfl)) fun v5 => (tb_seq (TF.to (tb := fun (v8 : PyData) => [.scr ns, .src false, .d q3, .va v5, .d v8, .jk, .jk, .jk, .jk, .jk, .jk, .any, .jk, .any, .jk]) (tf_setD (te_arg (tFR (te_compA (ti_range1 (vvB rfl)) rfl (pat1 (i := 5) (n := 15) (by decide)) (fun q6 => (td_frz (te_if (tt_bool (tVA (te_bin (tVA (te_s1 tf__law_pick rfl (te_arg (tHD te_k)))) (tVA (tHD te_k))))) (te_s0 tf__law_number rfl) (tHD (te_tup (ta_cons (te_arg (tHD te_k)) (ta_cons (te_arg (tHD te_k)) ta_nil))))))) (fun q6 => (LE.cons SS.lr (LE.cons SS.lr (LE.cons SS.lr (LE.cons SS.lr (LE.cons SS.lr (LE.cons SS.lr (LE.cons SS.lr (LE.cons SS.lr (LE.cons SS.lr (LE.cons SS.lr (LE.cons SS.lr (LE.cons SS.lr (LE.cons SS.lr (LE.cons SS.lr (LE.cons SS.lr LE.nil)))))))))))))))) (fun q6 => (LE.cons SS.lr (LE.cons SS.lr (LE.cons SS.lr (LE.cons SS.lr (LE.cons SS.lr (LE.cons SS.lr (LE.cons SS.lr (LE.cons SS.lr (LE.cons SS.lr (LE.cons SS.lr (LE.cons SS.lr (LE.cons SS.lr (LE.cons SS.lr (LE.cons SS.lr (LE.cons SS.lr LE.nil)))))))))))))))))))) (fun _ => rfl)) fun v8 => (tb_seq (TF.to (tb := fun (v10 : PyData) => [.scr ns, .src false, .d q3, .va v5, .d v8, .jk, .d v10, .jk, .jk, .jk, .jk, .any, .jk, .any, .jk]) (tf_setD (te_arg (te_c1 tf_row_through (te_arg (tFR (te_callBN (tb_cons (tVA (tHD (vdB rfl))) tb_nil))))))) (fun _ => rfl)) fun v10 => (tb_if1 (tt_or (tt_bool (tVA (te_bin (tVA (tHD (te_repr (td_frz (tFR (te_lst (ta_cons (te_arg (tHD (vd rfl))) (ta_cons (te_arg (te_c1 tf_row_through (te_arg (tFR (te_callBN (tb_cons (tVA (tHD (vdB rfl))) tb_nil)))))) ta_nil)))))))) (tVA (tHD (te_repr (td_frz (tFR (te_binN (tVA (tFR (te_lst (ta_cons (te_arg (te_c1 tf__law_through (te_arg (tHD (vd rfl))))) ta_nil)))) (tVA (tHD te_k))))))))))) (tt_bool (tVA (te_bin (tVA (tFR (te_callBN (tb_cons (tVA (tHD (vdB rfl))) tb_nil)))) (vvB rfl))))) (tr_ret (tHD te_k)) (tb_if1 (tt_bool (tVA (te_bin (tVA (tHD (te_repr (td_frz (tFR (te_compA (ti_range1 (vvB rfl)) rfl (pat1 (i := 7) (n := 15) (by decide)) (fun q13 => (td_frz (te_c2 tf_row_at (te_arg (tHD (vd rfl))) (te_arg (tHD (vd rfl)))))) (fun q13 => (LE.cons SS.lr (LE.cons SS.lr (LE.cons SS.lr (LE.cons SS.lr (LE.cons SS.lr (LE.cons SS.lr (LE.cons SS.lr (LE.cons SS.lr (LE.cons SS.lr (LE.cons SS.lr (LE.cons SS.lr (LE.cons SS.lr (LE.cons SS.lr (LE.cons SS.lr (LE.cons SS.lr LE.nil)))))))))))))))) (fun q13 => (LE.cons SS.lr (LE.cons SS.lr (LE.cons SS.lr (LE.cons SS.lr (LE.cons SS.lr (LE.cons SS.lr (LE.cons SS.lr (LE.cons SS.lr (LE.cons SS.lr (LE.cons SS.lr (LE.cons SS.lr (LE.cons SS.lr (LE.cons SS.lr (LE.cons SS.lr (LE.cons SS.lr LE.nil)))))))))))))))))))))) (tVA (tHD (te_repr (td_frz (tHD (vd rfl))))))))) (tr_ret (tHD te_k)) (tb_seq (TF.to (tb := fun (v17 : PyData) => [.scr ns, .src false, .d q3, .va v5, .d v8, .jk, .d v10, .jk, .d v17, .jk, .jk, .any, .jk, .any, .jk]) (tf_setD (te_arg (te_c1 tf_row_poly (te_arg (tHD (vd rfl)))))) (fun _ => rfl)) fun v17 => (tb_seq (TF.to (tb := fun (v21 : PyData) => [.scr ns, .src false, .d q3, .va v5, .d v8, .jk, .d v10, .d v21, .d v17, .jk, .jk, .any, .jk, .any, .jk]) (tf_setD (te_arg (te_s1 tf__law_of rfl (te_arg (tFR (te_lst (ta_cons (te_arg (te_s1 tf__law_pick rfl (te_arg (tHD te_k)))) (ta_cons (te_arg (tFR (te_binN (tVA (tHD te_k)) (tVA (te_s1 tf__law_pick rfl (te_arg (tHD te_k))))))) (ta_cons (te_arg (tFR (te_binN (tVA (tFR (te_binN (tVA (tHD te_k)) (tVA (tHD te_k))))) (tVA (tHD te_k))))) ta_nil))))))))) (fun _ => rfl)) fun v21 => (tb_if1 (tt_or (tt_not (tt_bool (tVA (te_c1 tf__law_is_row (te_arg (tHD (vd rfl))))))) (tt_or (tt_bool (tVA (te_bin (tVA (tFR (te_callBN (tb_cons (tVA (tHD (vdB rfl))) tb_nil)))) (tVA (tFR (te_callBN (tb_cons (tVA (tHD (vdB rfl))) tb_nil))))))) (tt_bool (tVA (te_bin (tVA (tHD (te_repr (td_frz (te_c2 tf__law_poly_at (te_arg (tHD (vd rfl))) (te_arg (tHD (vd rfl)))))))) (tVA (tHD (te_repr (td_frz (te_c2 tf__law_row_at (te_arg (tHD (vd rfl))) (te_arg (tHD (vd rfl))))))))))))) (tr_ret (tHD te_k)) (tb_if1 (tt_or (tt_bool (tVA (te_bin (tVA (tHD (te_repr (td_frz (te_c1 tf_row_of_poly (te_arg (tHD (vd rfl)))))))) (tVA (tHD (te_repr (td_frz (tHD (vd rfl))))))))) (tt_bool (tVA (te_bin (tVA (tHD (te_repr (td_frz (te_c1 tf_row_poly (te_arg (te_c1 tf_row_of_poly (te_arg (tHD (vd rfl)))))))))) (tVA (tHD (te_repr (td_frz (tHD (vd rfl)))))))))) (tr_ret (tHD te_k)) (tb_seq (TF.to (tb := fun (v33 : PyData) => [.scr ns, .src false, .d q3, .va v5, .d v8, .jk, .d v10, .d v21, .d v17, .d v33, .jk, .any, .jk, .any, .jk]) (tf_setD (te_arg (te_c1 tf__law_trimmed (te_arg (tFR (te_compA (ti_range1 (vvB rfl)) rfl (pat1 (i := 5) (n := 15) (by decide)) (fun q30 => (td_frz (tHD (te_tup (ta_cons (te_arg (tFR (te_binN (tVA (te_s1 tf__law_pick rfl (te_arg (tHD te_k)))) (tVA (tHD te_k))))) (ta_cons (te_arg (tHD te_k)) ta_nil)))))) (fun q30 => (LE.cons SS.lr (LE.cons SS.lr (LE.cons SS.lr (LE.cons SS.lr (LE.cons SS.lr (LE.cons SS.lr (LE.cons SS.lr (LE.cons SS.lr (LE.cons SS.lr (LE.cons SS.lr (LE.cons SS.lr (LE.cons SS.lr (LE.cons SS.lr (LE.cons SS.lr (LE.cons SS.lr LE.nil)))))))))))))))) (fun q30 => (LE.cons SS.lr (LE.cons SS.lr (LE.cons SS.lr (LE.cons SS.lr (LE.cons SS.lr (LE.cons SS.lr (LE.cons SS.lr (LE.cons SS.lr (LE.cons SS.lr (LE.cons SS.lr (LE.cons SS.lr (LE.cons SS.lr (LE.cons SS.lr (LE.cons SS.lr (LE.cons SS.lr LE.nil)))))))))))))))))))))) (fun _ => rfl)) fun v33 => (tb_if1 (tt_bool (tVA (te_bin (tVA (tFR (te_comp (ti_range2 (tVA (te_un (tVA (tHD te_k)))) (tVA (tHD te_k))) rfl (pat1 (i := 10) (n := 15) (by decide)) (fun q34 => (tt_bool (tVA (te_bin (tVA (te_bin (tVA (te_c2 tf_row_at (te_arg (tHD (vd rfl))) (te_arg (tHD (vd rfl))))) (tVA (tHD te_k)))) (tVA (tHD te_k)))))) (fun q34 => (td_frz (tHD te_k))) (fun q34 => (LE.cons SS.lr (LE.cons SS.lr (LE.cons SS.lr (LE.cons SS.lr (LE.cons SS.lr (LE.cons SS.lr (LE.cons SS.lr (LE.cons SS.lr (LE.cons SS.lr (LE.cons SS.lr (LE.cons SS.lr (LE.cons SS.lr (LE.cons SS.lr (LE.cons SS.lr (LE.cons SS.lr LE.nil)))))))))))))))) (fun q34 => (LE.cons SS.lr (LE.cons SS.lr (LE.cons SS.lr (LE.cons SS.lr (LE.cons SS.lr (LE.cons SS.lr (LE.cons SS.lr (LE.cons SS.lr (LE.cons SS.lr (LE.cons SS.lr (LE.cons SS.lr (LE.cons SS.lr (LE.cons SS.lr (LE.cons SS.lr (LE.cons SS.lr LE.nil))))))))))))))))))) (tVA (tFR (te_lst ta_nil)))))) (tr_ret (tHD te_k)) (tb_seq (TF.to (tb := fun (v38 : PyData) => [.scr ns, .src false, .d q3, .va v5, .d v8, .jk, .d v10, .d v21, .d v17, .d v33, .jk, .va v38, .jk, .any, .jk]) (tf_setV (te_bin (tVA (tFR (te_comp (ti_items (td_frz (tHD (vd rfl)))) rfl (pat1 (i := 12) (n := 15) (by decide)) (fun q37 => (tt_bool (tVA (te_bin (tVA (te_bin (tVA (tHD (vdB rfl))) (tVA (tHD te_k)))) (tVA (tHD te_k)))))) (fun q37 => (td_frz (tHD (vd rfl)))) (fun q37 => (LE.cons SS.lr (LE.cons SS.lr (LE.cons SS.lr (LE.cons SS.lr (LE.cons SS.lr (LE.cons SS.lr (LE.cons SS.lr (LE.cons SS.lr (LE.cons SS.lr (LE.cons SS.lr (LE.cons SS.lr (LE.cons SS.lr (LE.cons SS.lr (LE.cons SS.lr (LE.cons SS.lr LE.nil)))))))))))))))) (fun q37 => (LE.cons SS.lr (LE.cons SS.lr (LE.cons SS.lr (LE.cons SS.lr (LE.cons SS.lr (LE.cons SS.lr (LE.cons SS.lr (LE.cons SS.lr (LE.cons SS.lr (LE.cons SS.lr (LE.cons SS.lr (LE.cons SS.lr (LE.cons SS.lr (LE.cons SS.lr (LE.cons SS.lr LE.nil))))))))))))))))))) (tVA (tFR (te_lst ta_nil))))) (fun _ => rfl)) fun v38 => (tb_if1 (tt_bool (tVA (te_bin (tVA (te_bin (tVA (tFR (te_comp (ti_range1 (vvB rfl)) rfl (pat1 (i := 10) (n := 15) (by decide)) (fun q39 => (tt_bool (tVA (te_bin (tVA (te_bin (tVA (te_c2 tf_row_at (te_arg (tHD (vd rfl))) (te_arg (tHD (vd rfl))))) (tVA (tHD te_k)))) (tVA (tHD te_k)))))) (fun q39 => (td_frz (tHD te_k))) (fun q39 => (LE.cons SS.lr (LE.cons SS.lr (LE.cons SS.lr (LE.cons SS.lr (LE.cons SS.lr (LE.cons SS.lr (LE.cons SS.lr (LE.cons SS.lr (LE.cons SS.lr (LE.cons SS.lr (LE.cons SS.lr (LE.cons SS.lr (LE.cons SS.lr (LE.cons SS.lr (LE.cons SS.lr LE.nil)))))))))))))))) (fun q39 => (LE.cons SS.lr (LE.cons SS.lr (LE.cons SS.lr (LE.cons SS.lr (LE.cons SS.lr (LE.cons SS.lr (LE.cons SS.lr (LE.cons SS.lr (LE.cons SS.lr (LE.cons SS.lr (LE.cons SS.lr (LE.cons SS.lr (LE.cons SS.lr (LE.cons SS.lr (LE.cons SS.lr LE.nil))))))))))))))))))) (tVA (tFR (te_lst ta_nil))))) (vvB rfl)))) (tr_ret (tHD te_k)) (tb_seq (TF.to (tb := fun (v43 : PyData) => [.scr ns, .src false, .d q3, .va v5, .d v8, .jk, .d v10, .d v21, .d v17, .d v33, .jk, .va v38, .jk, .va v43, .jk]) (tf_setV (tFR (te_binN (tVA (tHD te_k)) (tVA (te_s1 tf__law_pick rfl (te_arg (tHD te_k))))))) (fun _ => rfl)) fun v43 => (tb_seq (TF.to (tb := fun (v47 : PyData) => [.scr ns, .src false, .d q3, .va v5, .d v8, .jk, .d v10, .d v21, .d v17, .d v33, .jk, .va v38, .jk, .va v43, .d v47]) (tf_setD (te_arg (tFR (te_comp (ti_range1 (vvB rfl)) rfl (pat1 (i := 10) (n := 15) (by decide)) (fun q44 => (tt_bool (tVA (te_bin (tVA (tFR (te_binN (tVA (tFR (te_callBN (tb_cons (tVA (te_bin (tVA (te_c2 tf_row_at (te_arg (tHD (vd rfl))) (te_arg (tHD (vd rfl))))) (tVA (tHD te_k)))) tb_nil)))) (vvB rfl)))) (tVA (tHD te_k)))))) (fun q44 => (td_frz (tHD (vd rfl)))) (fun q44 => (LE.cons SS.lr (LE.cons SS.lr (LE.cons SS.lr (LE.cons SS.lr (LE.cons SS.lr (LE.cons SS.lr (LE.cons SS.lr (LE.cons SS.lr (LE.cons SS.lr (LE.cons SS.lr (LE.cons SS.lr (LE.cons SS.lr (LE.cons SS.lr (LE.cons SS.lr (LE.cons SS.lr LE.nil)))))))))))))))) (fun q44 => (LE.cons SS.lr (LE.cons SS.lr (LE.cons SS.lr (LE.cons SS.lr (LE.cons SS.lr (LE.cons SS.lr (LE.cons SS.lr (LE.cons SS.lr (LE.cons SS.lr (LE.cons SS.lr (LE.cons SS.lr (LE.cons SS.lr (LE.cons SS.lr (LE.cons SS.lr (LE.cons SS.lr LE.nil)))))))))))))))))))) (fun _ => rfl)) fun v47 => (tb_if (tt_bool (tVA (te_bin (tVA (te_bin (tVA (tHD (vdB rfl))) (tVA (tFR (te_lst ta_nil))))) (tVA (te_bin (tVA (tFR (te_comp (ti_items (td_frz (tHD (vd rfl)))) rfl (pat1 (i := 12) (n := 15) (by decide)) (fun q48 => (tt_bool (tVA (te_bin (tVA (tFR (te_binN (tVA (tFR (te_callBN (tb_cons (tVA (te_bin (tVA (tHD (vdB rfl))) (tVA (tHD te_k)))) tb_nil)))) (vvB rfl)))) (tVA (tHD te_k)))))) (fun q48 => (td_frz (tHD (vd rfl)))) (fun q48 => (LE.cons SS.lr (LE.cons SS.lr (LE.cons SS.lr (LE.cons SS.lr (LE.cons SS.lr (LE.cons SS.lr (LE.cons SS.lr (LE.cons SS.lr (LE.cons SS.lr (LE.cons SS.lr (LE.cons SS.lr (LE.cons SS.lr (LE.cons SS.lr (LE.cons SS.lr (LE.cons SS.lr LE.nil)))))))))))))))) (fun q48 => (LE.cons SS.lr (LE.cons SS.lr (LE.cons SS.lr (LE.cons SS.lr (LE.cons SS.lr (LE.cons SS.lr (LE.cons SS.lr (LE.cons SS.lr (LE.cons SS.lr (LE.cons SS.lr (LE.cons SS.lr (LE.cons SS.lr (LE.cons SS.lr (LE.cons SS.lr (LE.cons SS.lr LE.nil))))))))))))))))))) (tVA (tFR (te_lst ta_nil)))))))) (tb_ret (tr_ret (tHD te_k))) (tb_nx (v := ()) (LE.cons SS.lr (LE.cons SS.lr (LE.cons SS.ldj (LE.cons SS.la (LE.cons SS.ldj (LE.cons SS.lr (LE.cons SS.ldj (LE.cons SS.ldj (LE.cons SS.ldj (LE.cons SS.ldj (LE.cons SS.lr (LE.cons SS.la (LE.cons SS.lr (LE.cons SS.la (LE.cons SS.ldj LE.nil)))))))))))))))))))))))))))))))))) fun v49 => (tr_ret (te_andV (tVA (te_bin (tVA (te_c1 tf_row_poly (te_arg (tHD (te_tup (ta_cons (te_arg (tHD (te_tup (ta_cons (te_arg (tHD te_k)) (ta_cons (te_arg (tHD te_k)) ta_nil))))) (ta_cons (te_arg (tHD (te_tup (ta_cons (te_arg (tHD te_k)) (ta_cons (te_arg (tHD te_k)) ta_nil))))) (ta_cons (te_arg (tHD (te_tup (ta_cons (te_arg (tHD te_k)) (ta_cons (te_arg (tHD te_k)) ta_nil))))) ta_nil)))))))) (tVA (tHD (te_tup (ta_cons (te_arg (tHD (te_tup (ta_cons (te_arg (tHD te_k)) (ta_cons (te_arg (tHD te_k)) ta_nil))))) (ta_cons (te_arg (tHD (te_tup (ta_cons (te_arg (te_un (tVA (tHD te_k)))) (ta_cons (te_arg (tHD te_k)) ta_nil))))) (ta_cons (te_arg (tHD (te_tup (ta_cons (te_arg (tHD te_k)) (ta_cons (te_arg (tHD te_k)) ta_nil))))) ta_nil)))))))) (te_bin (tVA (te_c1 tf_row_through (te_arg (tFR (te_lst ta_nil))))) (tVA (tHD (te_tup ta_nil))))))))
  (Fits.cons SS.okC (Fits.cons SS.okU (Fits.cons SS.okU (Fits.cons SS.okU (Fits.cons SS.okU (Fits.cons SS.okU (Fits.cons SS.okU (Fits.cons SS.okU (Fits.cons SS.okU (Fits.cons SS.okU (Fits.cons SS.okU (Fits.cons SS.okU (Fits.cons SS.okU (Fits.cons SS.okU (Fits.cons SS.okU Fits.nil)))))))))))))))
end LGk34
namespace LR
open PySem L2 DL
def t_is_integer (x0 : PyData) : S PyData :=
  (sAndV (sIsi "int" (pure x0)) (sNotV (sIsi "bool" (pure x0))))
def t_is_fraction (x0 : PyData) : S PyData :=
  (sIf (sOrT (sNotT (sBool (sIsi "tuple" (pure x0)))) (sOrT (sBool (sBin pyNe (sCallB DL.pyLen (sCons (pure x0) sNil)) (pure (.int 2)))) (sNotT (sBool (sCallB pyAll (sCons (sCompA un1 (sItems (pure x0)) (fun q1 => ((pure q1) >>= fun y2 => t_is_integer y2))) sNil)))))) (pure (.bool false)) (sAndV (sBin pyGt (sBin pyIx (pure x0) (pure (.int 1))) (pure (.int 0))) (sBin pyEq (sCallB pyGcd (sCons (sBin pyIx (pure x0) (pure (.int 0))) (sCons (sBin pyIx (pure x0) (pure (.int 1))) sNil))) (pure (.int 1)))))
def t_fraction_of (x0 x1 : PyData) : S PyData :=
  ((sCallB pyGcd (sCons (pure x0) (sCons (pure x1) sNil))) >>= fun v1 => (sIf (sBool (sBin pyGt (pure x1) (pure (.int 0)))) (sTup (sCons (sBin pyFloorDiv (pure x0) (pure v1)) (sCons (sBin pyFloorDiv (pure x1) (pure v1)) sNil))) (sTup (sCons (sBin pyFloorDiv (sUn pyNeg (pure x0)) (pure v1)) (sCons (sBin pyFloorDiv (sUn pyNeg (pure x1)) (pure v1)) sNil)))))
def t_fraction_sum (x0 x1 : PyData) : S PyData :=
  ((sBin pyAdd (sBin pyMul (sBin pyIx (pure x0) (pure (.int 0))) (sBin pyIx (pure x1) (pure (.int 1)))) (sBin pyMul (sBin pyIx (pure x1) (pure (.int 0))) (sBin pyIx (pure x0) (pure (.int 1))))) >>= fun y1 => ((sBin pyMul (sBin pyIx (pure x0) (pure (.int 1))) (sBin pyIx (pure x1) (pure (.int 1)))) >>= fun y2 => t_fraction_of y1 y2))
def t_fraction_less (x0 x1 : PyData) : S PyData :=
  ((sBin pySub (sBin pyMul (sBin pyIx (pure x0) (pure (.int 0))) (sBin pyIx (pure x1) (pure (.int 1)))) (sBin pyMul (sBin pyIx (pure x1) (pure (.int 0))) (sBin pyIx (pure x0) (pure (.int 1))))) >>= fun y1 => ((sBin pyMul (sBin pyIx (pure x0) (pure (.int 1))) (sBin pyIx (pure x1) (pure (.int 1)))) >>= fun y2 => t_fraction_of y1 y2))
def t_fraction_times (x0 x1 : PyData) : S PyData :=
  ((sBin pyMul (sBin pyIx (pure x0) (pure (.int 0))) (sBin pyIx (pure x1) (pure (.int 0)))) >>= fun y1 => ((sBin pyMul (sBin pyIx (pure x0) (pure (.int 1))) (sBin pyIx (pure x1) (pure (.int 1)))) >>= fun y2 => t_fraction_of y1 y2))
def t_fraction_by (x0 x1 : PyData) : S PyData :=
  ((sBin pyMul (sBin pyIx (pure x0) (pure (.int 0))) (sBin pyIx (pure x1) (pure (.int 1)))) >>= fun y1 => ((sBin pyMul (sBin pyIx (pure x0) (pure (.int 1))) (sBin pyIx (pure x1) (pure (.int 0)))) >>= fun y2 => t_fraction_of y1 y2))
def tlb_choose_1 (p0 : PyData) (v : PyData) (q : PyData) : S (PyData) :=
  ((sBin pyFloorDiv (sBin pyMul (pure v) (sBin pySub (pure p0) (pure q))) (sBin pyAdd (pure q) (pure (.int 1)))) >>= fun v2 => pure v2)
def t_choose (x0 x1 : PyData) : S PyData :=
  ((pure (.int 1)) >>= fun v1 => (((sRange1 (pure x1)) >>= fun xs_ => foldS (fun w_ x_ => S.opt (un1 x_) >>= (tlb_choose_1 x0) w_) xs_ v1) >>= fun v5 => (pure v5)))
def t_is_row (x0 : PyData) : S PyData :=
  (sIf (sOrT (sNotT (sBool (sIsi "tuple" (pure x0)))) (sNotT (sBool (sCallB pyAll (sCons (sCompA un1 (sItems (pure x0)) (fun q1 => ((pure q1) >>= fun y2 => t_is_fraction y2))) sNil))))) (pure (.bool false)) (sOrV (sBin pyEq (pure x0) (sTup sNil)) (sBin pyNe (sBin pyIx (pure x0) (sUn pyNeg (pure (.int 1)))) (pure (.tuple [(.int 0), (.int 1)])))))
def twc_row_of_1 (p0 : PyData) (v : PyData) : S Bool :=
  (sAndT (sBool (sBin pyGt (pure v) (pure (.int 0)))) (sBool (sBin pyEq (sBin pyIx (pure p0) (sBin pySub (pure v) (pure (.int 1)))) (pure (.tuple [(.int 0), (.int 1)])))))
def twb_row_of_2 (v : PyData) : S (PyData) :=
  ((sBin pySub (pure v) (pure (.int 1))) >>= fun v3 => pure v3)
def fuel_row_of : Nat := 1000000
def t_row_of (x0 : PyData) : S PyData :=
  ((sCallB DL.pyLen (sCons (pure x0) sNil)) >>= fun v1 => ((whileS (twc_row_of_1 x0) twb_row_of_2 fuel_row_of v1) >>= fun v4 => (sCallB pyTupOf (sCons (sSl (pure x0) (pure none) ((pure v4) >>= partS)) sNil))))
def t_wide (x0 x1 : PyData) : S PyData :=
  (sLst (sStar (pure x0) (sStar (sBin pyMul (sLst (sCons (pure (.tuple [(.int 0), (.int 1)])) sNil)) (sBin pySub (pure x1) (sCallB DL.pyLen (sCons (pure x0) sNil)))) sNil)))
def t_row_sum (x0 x1 : PyData) : S PyData :=
  ((sCallB pyMax2 (sCons (sCallB DL.pyLen (sCons (pure x0) sNil)) (sCons (sCallB DL.pyLen (sCons (pure x1) sNil)) sNil))) >>= fun v1 => ((sCompA un2 (sZip ((pure x0) >>= fun y2 => ((pure v1) >>= fun y3 => t_wide y2 y3)) ((pure x1) >>= fun y4 => ((pure v1) >>= fun y5 => t_wide y4 y5))) (fun q6 => ((pure q6.1) >>= fun y7 => ((pure q6.2) >>= fun y8 => t_fraction_sum y7 y8)))) >>= fun y9 => t_row_of y9))
def t_row_less (x0 x1 : PyData) : S PyData :=
  ((sCallB pyMax2 (sCons (sCallB DL.pyLen (sCons (pure x0) sNil)) (sCons (sCallB DL.pyLen (sCons (pure x1) sNil)) sNil))) >>= fun v1 => ((sCompA un2 (sZip ((pure x0) >>= fun y2 => ((pure v1) >>= fun y3 => t_wide y2 y3)) ((pure x1) >>= fun y4 => ((pure v1) >>= fun y5 => t_wide y4 y5))) (fun q6 => ((pure q6.1) >>= fun y7 => ((pure q6.2) >>= fun y8 => t_fraction_less y7 y8)))) >>= fun y9 => t_row_of y9))
def t_row_scaled (x0 x1 : PyData) : S PyData :=
  ((sCompA un1 (sItems (pure x1)) (fun q1 => ((pure x0) >>= fun y2 => ((pure q1) >>= fun y3 => t_fraction_times y2 y3)))) >>= fun y4 => t_row_of y4)
def tlb_row_times_1 (p3 : PyData) (p4 : PyData) (p5 : PyData) (p6 : PyData) (v : PyData) (q : PyData) : S (PyData) :=
  ((sBin pyMul ((pure q) >>= fun y2 => ((pure p3) >>= fun y3 => t_choose y2 y3)) ((pure p3) >>= fun y4 => ((sBin pySub (sBin pyAdd (pure p3) (pure p5)) (pure q)) >>= fun y5 => t_choose y4 y5))) >>= fun v6 => ((((sBin pyIx (pure v) (pure q)) >>= fun y11 => (((sTup (sCons (pure v6) (sCons (pure (.int 1)) sNil))) >>= fun y9 => (((pure p4) >>= fun y7 => ((pure p6) >>= fun y8 => t_fraction_times y7 y8)) >>= fun y10 => t_fraction_times y9 y10)) >>= fun y12 => t_fraction_sum y11 y12)) >>= fun y13 => (pure q) >>= fun y14 => putS v y14 y13) >>= fun v15 => pure v15))
def tlb_row_times_2 (p3 : PyData) (p4 : PyData) (v : PyData) (q : PyData × PyData) : S (PyData) :=
  (((sRange2 (sCallB pyMax2 (sCons (pure p3) (sCons (pure q.1) sNil))) (sBin pyAdd (sBin pyAdd (pure p3) (pure q.1)) (pure (.int 1)))) >>= fun xs_ => foldS (fun w_ x_ => S.opt (un1 x_) >>= (tlb_row_times_1 p3 p4 q.1 q.2) w_) xs_ v) >>= fun v18 => pure v18)
def tlb_row_times_3 (p1 : PyData) (v : PyData) (q : PyData × PyData) : S (PyData) :=
  (((sEnum (pure p1)) >>= fun xs_ => foldS (fun w_ x_ => S.opt (un2 x_) >>= (tlb_row_times_2 q.1 q.2) w_) xs_ v) >>= fun v21 => pure v21)
def t_row_times (x0 x1 : PyData) : S PyData :=
  ((sBin pyMul (sLst (sCons (pure (.tuple [(.int 0), (.int 1)])) sNil)) (sBin pyAdd (sCallB DL.pyLen (sCons (pure x0) sNil)) (sCallB DL.pyLen (sCons (pure x1) sNil)))) >>= fun v1 => (((sEnum (pure x0)) >>= fun xs_ => foldS (fun w_ x_ => S.opt (un2 x_) >>= (tlb_row_times_3 x1) w_) xs_ v1) >>= fun v24 => ((pure v24) >>= fun y25 => t_row_of y25)))
def tlb_row_at_1 (p1 : PyData) (v : PyData) (q : PyData × PyData) : S (PyData) :=
  (((pure v) >>= fun y6 => (((sTup (sCons ((pure p1) >>= fun y2 => ((pure q.1) >>= fun y3 => t_choose y2 y3)) (sCons (pure (.int 1)) sNil))) >>= fun y4 => ((pure q.2) >>= fun y5 => t_fraction_times y4 y5)) >>= fun y7 => t_fraction_sum y6 y7)) >>= fun v8 => pure v8)
def t_row_at (x0 x1 : PyData) : S PyData :=
  ((pure (.tuple [(.int 0), (.int 1)])) >>= fun v1 => (((sEnum (pure x0)) >>= fun xs_ => foldS (fun w_ x_ => S.opt (un2 x_) >>= (tlb_row_at_1 x1) w_) xs_ v1) >>= fun v11 => (pure v11)))
def tlb_row_shifted_1 (p0 : PyData) (p1 : PyData) (p3 : PyData) (v : PyData) (q : PyData) : S (PyData) :=
  (((pure v) >>= fun y7 => (((sTup (sCons ((pure p1) >>= fun y3 => ((sBin pySub (pure q) (pure p3)) >>= fun y4 => t_choose y3 y4)) (sCons (pure (.int 1)) sNil))) >>= fun y5 => ((sBin pyIx (pure p0) (pure q)) >>= fun y6 => t_fraction_times y5 y6)) >>= fun y8 => t_fraction_sum y7 y8)) >>= fun v9 => pure v9)
def tlb_row_shifted_2 (p0 : PyData) (p1 : PyData) (v : PyData) (q : PyData) : S (PyData) :=
  ((pure (.tuple [(.int 0), (.int 1)])) >>= fun v2 => (((sRange2 (pure q) (sCallB DL.pyLen (sCons (pure p0) sNil))) >>= fun xs_ => foldS (fun w_ x_ => S.opt (un1 x_) >>= (tlb_row_shifted_1 p0 p1 q) w_) xs_ v2) >>= fun v12 => (((pure v12) >>= fun y13 => appS v y13) >>= fun v14 => pure v14)))
def t_row_shifted (x0 x1 : PyData) : S PyData :=
  ((sLst sNil) >>= fun v1 => (((sRange1 (sCallB DL.pyLen (sCons (pure x0) sNil))) >>= fun xs_ => foldS (fun w_ x_ => S.opt (un1 x_) >>= (tlb_row_shifted_2 x0 x1) w_) xs_ v1) >>= fun v17 => ((pure v17) >>= fun y18 => t_row_of y18)))
def t_row_summed (x0 : PyData) : S PyData :=
  (sIf (sBool (sBin pyNe (pure x0) (sTup sNil))) (sTup (sCons (pure (.tuple [(.int 0), (.int 1)])) (sStar (pure x0) sNil))) (sTup sNil))
def tlb_row_poly_1 (p0 : PyData) (v : PyData × PyData) (q : PyData × PyData) : S (PyData × PyData) :=
  ((sCompA un2 (sZip (pure v.1) ((pure v.2) >>= fun y2 => ((sCallB DL.pyLen (sCons (pure p0) sNil)) >>= fun y3 => t_wide y2 y3))) (fun q4 => ((pure q4.1) >>= fun y7 => (((pure q.2) >>= fun y5 => ((pure q4.2) >>= fun y6 => t_fraction_times y5 y6)) >>= fun y8 => t_fraction_sum y7 y8)))) >>= fun v9 => ((sCompA un2 (sZip (sLst (sCons (pure (.tuple [(.int 0), (.int 1)])) (sStar (pure v.2) sNil))) (sLst (sStar (pure v.2) (sCons (pure (.tuple [(.int 0), (.int 1)])) sNil)))) (fun q10 => ((pure q10.1) >>= fun y13 => (((sTup (sCons (pure q.1) (sCons (pure (.int 1)) sNil))) >>= fun y11 => ((pure q10.2) >>= fun y12 => t_fraction_times y11 y12)) >>= fun y14 => t_fraction_less y13 y14)))) >>= fun v15 => ((sCompA un1 (sItems (pure v15)) (fun q16 => ((sTup (sCons (pure (.int 1)) (sCons (sBin pyAdd (pure q.1) (pure (.int 1))) sNil))) >>= fun y17 => ((pure q16) >>= fun y18 => t_fraction_times y17 y18)))) >>= fun v19 => pure (v9, v19))))
def t_row_poly (x0 : PyData) : S PyData :=
  (((sCons (sBin pyMul (sLst (sCons (pure (.tuple [(.int 0), (.int 1)])) sNil)) (sCallB DL.pyLen (sCons (pure x0) sNil))) (sCons (sLst (sCons (pure (.tuple [(.int 1), (.int 1)])) sNil)) sNil)) >>= fun xs => S.opt (two xs)) >>= fun v1 => (((sEnum (pure x0)) >>= fun xs_ => foldS (fun w_ x_ => S.opt (un2 x_) >>= (tlb_row_poly_1 x0) w_) xs_ (v1.1, v1.2)) >>= fun v22 => ((pure v22.1) >>= fun y23 => t_row_of y23)))
def twc_row_through_1 (v : PyData × PyData) : S Bool :=
  (sBool (sBin pyNe (pure v.2) (sLst sNil)))
def twb_row_through_2 (v : PyData × PyData) : S (PyData × PyData) :=
  (((sBin pyIx (pure v.2) (pure (.int 0))) >>= fun y5 => appS v.1 y5) >>= fun v6 => ((sCompA un2 (sZip (pure v.2) (sSl (pure v.2) ((pure (.int 1)) >>= partS) (pure none))) (fun q7 => ((pure q7.2) >>= fun y8 => ((pure q7.1) >>= fun y9 => t_fraction_less y8 y9)))) >>= fun v10 => pure (v6, v10)))
def fuel_row_through : Nat := 1000000
def t_row_through (x0 : PyData) : S PyData :=
  (((sLst sNil) >>= fun y1 => (sCallB pyListOf (sCons (pure x0) sNil)) >>= fun y2 => pure (y1, y2)) >>= fun v3 => ((whileS twc_row_through_1 twb_row_through_2 fuel_row_through (v3.1, v3.2)) >>= fun v11 => ((pure v11.1) >>= fun y12 => t_row_of y12)))
def tlb_row_of_poly_1 (p2 : PyData) (v : PyData) (q : PyData) : S (PyData) :=
  ((((pure v) >>= fun y3 => ((sTup (sCons (pure p2) (sCons (pure (.int 1)) sNil))) >>= fun y4 => t_fraction_times y3 y4)) >>= fun y5 => ((pure q) >>= fun y6 => t_fraction_sum y5 y6)) >>= fun v7 => pure v7)
def tlb_row_of_poly_2 (p0 : PyData) (v : PyData) (q : PyData) : S (PyData) :=
  ((pure (.tuple [(.int 0), (.int 1)])) >>= fun v2 => (((sItems (sUn pyRev (pure p0))) >>= fun xs_ => foldS (fun w_ x_ => S.opt (un1 x_) >>= (tlb_row_of_poly_1 q) w_) xs_ v2) >>= fun v10 => (((pure v10) >>= fun y11 => appS v y11) >>= fun v12 => pure v12)))
def t_row_of_poly (x0 : PyData) : S PyData :=
  ((sLst sNil) >>= fun v1 => (((sRange1 (sCallB DL.pyLen (sCons (pure x0) sNil))) >>= fun xs_ => foldS (fun w_ x_ => S.opt (un1 x_) >>= (tlb_row_of_poly_2 x0) w_) xs_ v1) >>= fun v15 => ((pure v15) >>= fun y16 => t_row_through y16)))
def t_same_answer (x0 x1 : PyData) : S PyData :=
  (((pure x0) >>= fun y1 => ((pure x1) >>= fun y2 => t_row_less y1 y2)) >>= fun v3 => (sIf (sBool (sBin pyEq (pure v3) (sTup sNil))) (sTup (sCons (pure (.str "same")) (sCons (pure x0) sNil))) ((sCallB pyMin (sCons (sComp un2 (sEnum (pure v3)) (fun q4 => (sBool (sBin pyNe (pure q4.2) (sTup (sCons (pure (.int 0)) (sCons (pure (.int 1)) sNil)))))) (fun q4 => (pure q4.1))) sNil)) >>= fun v5 => (sTup (sCons (pure (.str "apart")) (sCons (pure v5) (sCons ((pure x0) >>= fun y6 => ((pure v5) >>= fun y7 => t_row_at y6 y7)) (sCons ((pure x1) >>= fun y8 => ((pure v5) >>= fun y9 => t_row_at y8 y9)) sNil))))))))
def t_shifted_once (x0 : PyData) : S PyData :=
  ((sCompA un2 (sEnum (pure x0)) (fun q1 => (sIf (sBool (sBin pyLt (sBin pyAdd (pure q1.1) (pure (.int 1))) (sCallB DL.pyLen (sCons (pure x0) sNil)))) ((pure q1.2) >>= fun y2 => ((sBin pyIx (pure x0) (sBin pyAdd (pure q1.1) (pure (.int 1)))) >>= fun y3 => t_fraction_sum y2 y3)) (pure q1.2)))) >>= fun y4 => t_row_of y4)
def t_sign_at (x0 : PyData) : S PyData :=
  ((sIf (sBool (sBin pyNe (pure x0) (sTup sNil))) (sBin pyIx (sBin pyIx (pure x0) (pure (.int 0))) (pure (.int 0))) (pure (.int 0))) >>= fun v1 => (sBin pySub (sCallB pyInt (sCons (sBin pyGt (pure v1) (pure (.int 0))) sNil)) (sCallB pyInt (sCons (sBin pyLt (pure v1) (pure (.int 0))) sNil))))
def t_is_settled (x0 : PyData) : S PyData :=
  ((sCompA un1 (sItems (pure x0)) (fun q1 => (sBin pyIx (pure q1) (pure (.int 0))))) >>= fun v2 => (sOrV (sBin pyEq (pure v2) (sLst sNil)) (sOrV (sAndV (sBin pyGt (sBin pyIx (pure v2) (pure (.int 0))) (pure (.int 0))) (sBin pyGe (sCallB pyMin (sCons (pure v2) sNil)) (pure (.int 0)))) (sAndV (sBin pyLt (sBin pyIx (pure v2) (pure (.int 0))) (pure (.int 0))) (sBin pyLe (sCallB pyMax (sCons (pure v2) sNil)) (pure (.int 0)))))))
def tlb_judge_row_1 (p1 : PyData) (v : Unit) (q : PyData × PyData) : S (Out (Unit) (Unit)) :=
  (sIf (sBool (sBin pyNe ((pure p1) >>= fun y2 => ((pure q.1) >>= fun y3 => t_row_at y2 y3)) (pure q.2))) ((sTup (sCons (pure (.str "at")) (sCons (pure q.1) (sCons (pure q.2) sNil)))) >>= fun x => pure (.ret x)) (pure (.nxt ())))
def t_judge_row (x0 x1 : PyData) : S PyData :=
  (sIf (sNotT (sBool ((pure x1) >>= fun y1 => t_is_row y1))) (sTup (sCons (pure (.str "form")) sNil)) (((sEnum (pure x0)) >>= fun xs_ => forO (κ := Empty) (fun w_ x_ => S.opt (un2 x_) >>= (tlb_judge_row_1 x1) w_) xs_ ()) >>= outR fun v6 => (sIf (sBool (sBin pyGt (sCallB DL.pyLen (sCons (pure x1) sNil)) (sCallB DL.pyLen (sCons (pure x0) sNil)))) (sTup (sCons (pure (.str "longer")) (sCons (sCallB DL.pyLen (sCons ((pure x0) >>= fun y7 => t_row_through y7) sNil)) sNil))) (pure .none))))
end LR
namespace LR
open PySem L2 DL
/-- a fraction -/
def fr (r : Rat) : PyData := .tuple [.int r.num, .int (r.den : Nat)]
/-- an integer's size -/
def Zk (k : Nat) (i : Int) : Prop := i.natAbs < 2 ^ k
structure Sz (m k : Nat) (r : Rat) : Prop where
  n : r.num.natAbs < 2 ^ m
  d : r.den < 2 ^ k
theorem Zk.up {a b : Nat} {i : Int} (h : Zk a i) (k : a ≤ b) : Zk b i := Nat.lt_of_lt_of_le h (Nat.pow_le_pow_right (by decide) k)
theorem Sz.up {a b a' b' : Nat} {r : Rat} (h : Sz a b r) (k : a ≤ a') (k' : b ≤ b') : Sz a' b' r := ⟨Nat.lt_of_lt_of_le h.n (Nat.pow_le_pow_right (by decide) k), Nat.lt_of_lt_of_le h.d (Nat.pow_le_pow_right (by decide) k')⟩
theorem Zk.mul {a b : Nat} {i j : Int} (h : Zk a i) (k : Zk b j) : Zk (a + b) (i * j) := by
  unfold Zk at *
  rw [Int.natAbs_mul, Nat.pow_add]
  exact Nat.mul_lt_mul_of_lt_of_le h (Nat.le_of_lt k) (Nat.pos_of_ne_zero (by simp))
theorem Zk.add {a : Nat} {i j : Int} (h : Zk a i) (k : Zk a j) : Zk (a + 1) (i + j) := by
  unfold Zk at *
  rw [Nat.pow_succ]
  omega
theorem Zk.sub {a : Nat} {i j : Int} (h : Zk a i) (k : Zk a j) : Zk (a + 1) (i - j) := by
  unfold Zk at *
  rw [Nat.pow_succ]
  omega
theorem Zk.log {k : Nat} {i : Int} (h : Zk k i) : i.natAbs.log2 ≤ k := by
  by_cases z : i.natAbs = 0
  · rw [z]; simp
  · exact Nat.le_of_lt ((Nat.log2_lt z).mpr h)
theorem mul_z {a b : Nat} {i j : Int} (h : Zk a i) (k : Zk b j) (hab : a + b < 1000000) : pyMul (.int i) (.int j) = some (.d (.int (i * j))) := by
  have : mulOk i j = true := by
    unfold mulOk
    have h1 := h.log
    have h2 := k.log
    rw [decide_eq_true (show i.natAbs.log2 + j.natAbs.log2 < 1000000 by omega)]
    simp
  simp [pyMul, this]
theorem fdiv_z {k : Nat} {i j : Int} (h : Zk k j) (h0 : 0 < j) (hk : k < 9000) : pyFloorDiv (.int i) (.int j) = some (.d (.int (i / j))) := by
  have := h.log
  have h2 : j.natAbs.log2 < 9000 := by omega
  simp [pyFloorDiv, h0, h2]
theorem ix0 (a b : PyData) : pyIx (.tuple [a, b]) (.int 0) = some (.d a) := rfl
theorem ix1 (a b : PyData) : pyIx (.tuple [a, b]) (.int 1) = some (.d b) := rfl
theorem gcd_int (i j : Int) : pyGcd [.int i, .int j] = some (.d (.int ((Nat.gcd i.natAbs j.natAbs : Nat) : Int))) := rfl
theorem t_fraction_of_eq {p q : Int} (hq : q ≠ 0) (h : Zk 8999 q) : t_fraction_of (.int p) (.int q) = pure (fr (Rat.divInt p q)) := by
  have hg0 : 0 < Nat.gcd p.natAbs q.natAbs := Nat.gcd_pos_of_pos_right _ (by omega)
  have hgz : Zk 8999 ((Nat.gcd p.natAbs q.natAbs : Nat) : Int) := by
    have h1 : Nat.gcd p.natAbs q.natAbs ≤ q.natAbs := Nat.gcd_le_right _ (by omega)
    have h2 : q.natAbs < 2 ^ 8999 := h
    show ((Nat.gcd p.natAbs q.natAbs : Nat) : Int).natAbs < 2 ^ 8999
    rw [Int.natAbs_natCast]
    exact Nat.lt_of_le_of_lt h1 h2
  have gpos : (0 : Int) < ((Nat.gcd p.natAbs q.natAbs : Nat) : Int) := by omega
  have eg : ((q.gcd p : Nat) : Int) = ((Nat.gcd p.natAbs q.natAbs : Nat) : Int) := by
    show ((Nat.gcd q.natAbs p.natAbs : Nat) : Int) = _
    rw [Nat.gcd_comm]
  have fd := fun i => fdiv_z (i := i) hgz gpos (by omega)
  have hd : (((Rat.divInt p q).den : Nat) : Int) = (if 0 < q then q else -q) / ((Nat.gcd p.natAbs q.natAbs : Nat) : Int) := by
    rw [Rat.den_divInt, if_neg hq, Int.natCast_ediv, eg]
    congr 1
    split <;> omega
  unfold t_fraction_of
  simp only [sNil_p, sCons_p, sCallB_p, gcd_int, sOp_d, pure_bind, sBin_p, pyGt_ii, sBool_p, sIf_p]
  by_cases hp : 0 < q
  · have hs : q.sign = 1 := Int.sign_eq_one_of_pos hp
    simp only [hp, decide_true, if_true, fd, sOp_d, sCons_p, sTup_p, sSz_2]
    rw [if_pos hp] at hd
    unfold fr
    rw [Rat.num_divInt, eg, hs, Int.one_mul, hd]
  · have hs : q.sign = -1 := Int.sign_eq_neg_one_of_neg (by omega)
    simp only [hp, decide_false, Bool.false_eq_true, if_false, sUn_p, pyNeg_i, sOp_d, sBin_p, fd, sCons_p, sTup_p, sSz_2]
    rw [if_neg hp] at hd
    unfold fr
    rw [Rat.num_divInt, eg, hs, hd]
    congr 3
    simp
theorem Sz.nz {m k : Nat} {r : Rat} (h : Sz m k r) : Zk m r.num := h.n
theorem Sz.dz {m k : Nat} {r : Rat} (h : Sz m k r) : Zk k (r.den : Int) := by
  show ((r.den : Nat) : Int).natAbs < _
  rw [Int.natAbs_natCast]; exact h.d
theorem den_ne (r : Rat) : ((r.den : Nat) : Int) ≠ 0 := by have := r.den_nz; omega
theorem div_add (a b : Rat) : Rat.divInt (a.num * b.den + b.num * a.den) ((a.den : Int) * b.den) = a + b := by
  have h := Rat.divInt_add_divInt a.num b.num (den_ne a) (den_ne b)
  rw [Rat.num_divInt_den, Rat.num_divInt_den] at h
  exact h.symm
theorem div_sub (a b : Rat) : Rat.divInt (a.num * b.den - b.num * a.den) ((a.den : Int) * b.den) = a - b := by
  have h := div_add a (-b)
  rw [Rat.neg_num, Rat.neg_den] at h
  rw [show a - b = a + -b from Rat.sub_eq_add_neg a b, ← h]
  congr 1
  rw [Int.neg_mul]
  omega
theorem div_mul (a b : Rat) : Rat.divInt (a.num * b.num) ((a.den : Int) * b.den) = a * b := by
  have h := Rat.divInt_mul_divInt a.num b.num (d₁ := (a.den : Int)) (d₂ := (b.den : Int))
  rw [Rat.num_divInt_den, Rat.num_divInt_den] at h
  exact h.symm
theorem den_mul_ne (a b : Rat) : ((a.den : Int) * (b.den : Int)) ≠ 0 := Int.mul_ne_zero (den_ne a) (den_ne b)
section
variable {a b : Rat}
theorem t_fraction_sum_eq (ha : Sz 400000 4000 a) (hb : Sz 400000 4000 b) : t_fraction_sum (fr a) (fr b) = pure (fr (a + b)) := by
  unfold t_fraction_sum fr
  simp only [sBin_p, ix0, ix1, sOp_d, mul_z ha.nz hb.dz (by omega), mul_z hb.nz ha.dz (by omega), mul_z ha.dz hb.dz (by omega), pyAdd_ii, pure_bind]
  rw [t_fraction_of_eq (den_mul_ne a b) ((ha.dz.mul hb.dz).up (by omega)), div_add]
  rfl
theorem t_fraction_less_eq (ha : Sz 400000 4000 a) (hb : Sz 400000 4000 b) : t_fraction_less (fr a) (fr b) = pure (fr (a - b)) := by
  unfold t_fraction_less fr
  simp only [sBin_p, ix0, ix1, sOp_d, mul_z ha.nz hb.dz (by omega), mul_z hb.nz ha.dz (by omega), mul_z ha.dz hb.dz (by omega), pySub_ii, pure_bind]
  rw [t_fraction_of_eq (den_mul_ne a b) ((ha.dz.mul hb.dz).up (by omega)), div_sub]
  rfl
theorem t_fraction_times_eq (ha : Sz 400000 4000 a) (hb : Sz 400000 4000 b) : t_fraction_times (fr a) (fr b) = pure (fr (a * b)) := by
  unfold t_fraction_times fr
  simp only [sBin_p, ix0, ix1, sOp_d, mul_z ha.nz hb.nz (by omega), mul_z ha.dz hb.dz (by omega), pure_bind]
  rw [t_fraction_of_eq (den_mul_ne a b) ((ha.dz.mul hb.dz).up (by omega)), div_mul]
  rfl
end
/-! sizes -/
theorem sz_divInt {m k : Nat} {p q : Int} (hp : Zk m p) (hq : Zk k q) (h0 : q ≠ 0) : Sz m k (Rat.divInt p q) := by
  refine ⟨?_, ?_⟩
  · rw [Rat.num_divInt]
    refine Nat.lt_of_le_of_lt ?_ hp
    rw [Int.natAbs_ediv_of_dvd (by
      have := Int.gcd_dvd_right (a := q) (b := p)
      exact Int.dvd_trans this (Int.dvd_mul_left _ _))]
    refine Nat.le_trans (Nat.div_le_self _ _) ?_
    rw [Int.natAbs_mul]
    have : q.sign.natAbs = 1 := by rw [Int.natAbs_sign, if_neg h0]
    rw [this]; omega
  · rw [Rat.den_divInt, if_neg h0]
    exact Nat.lt_of_le_of_lt (Nat.div_le_self _ _) hq
theorem Sz.add {m k n l c : Nat} {a b : Rat} (ha : Sz m k a) (hb : Sz n l b) (h1 : m + l ≤ c) (h2 : n + k ≤ c) : Sz (c + 1) (k + l) (a + b) := by
  rw [← div_add]
  exact sz_divInt (((ha.nz.mul hb.dz).up h1).add ((hb.nz.mul ha.dz).up h2)) (ha.dz.mul hb.dz) (den_mul_ne a b)
theorem Sz.sub {m k n l c : Nat} {a b : Rat} (ha : Sz m k a) (hb : Sz n l b) (h1 : m + l ≤ c) (h2 : n + k ≤ c) : Sz (c + 1) (k + l) (a - b) := by
  rw [← div_sub]
  exact sz_divInt (((ha.nz.mul hb.dz).up h1).sub ((hb.nz.mul ha.dz).up h2)) (ha.dz.mul hb.dz) (den_mul_ne a b)
theorem Sz.mul {m k n l : Nat} {a b : Rat} (ha : Sz m k a) (hb : Sz n l b) : Sz (m + n) (k + l) (a * b) := by
  rw [← div_mul]
  exact sz_divInt (ha.nz.mul hb.nz) (ha.dz.mul hb.dz) (den_mul_ne a b)
theorem fr_int (i : Int) : (.tuple [.int i, .int 1] : PyData) = fr (i : Rat) := by
  unfold fr
  rw [Rat.num_intCast, Rat.den_intCast]
  rfl
theorem Sz.int {m : Nat} {i : Int} (h : Zk m i) : Sz m 1 (i : Rat) := ⟨by rw [Rat.num_intCast]; exact h, by
  rw [Rat.den_intCast]; decide⟩
theorem fr_zero : (.tuple [.int 0, .int 1] : PyData) = fr 0 := rfl
theorem fr_one : (.tuple [.int 1, .int 1] : PyData) = fr 1 := rfl
theorem Sz.zero {m : Nat} : Sz m 1 0 := Sz.int (i := 0) (Nat.pos_of_ne_zero (by simp))
theorem Sz.one {m : Nat} (hm : 1 ≤ m) : Sz m 1 1 := Sz.int (i := 1) (Nat.lt_of_lt_of_le (show 1 < 2 ^ 1 by decide) (Nat.pow_le_pow_right (by decide) hm))
theorem fr_inj {a b : Rat} (h : fr a = fr b) : a = b := by
  unfold fr at h
  injection h with h
  injection h with h1 h2
  injection h1 with h1
  injection h2 with h2 _
  injection h2 with h2
  exact Rat.ext h1 (by omega)
end LR
namespace LR
open PySem L2 DL
/-! n over k -/
def Qr : Nat → Rat → Rat
  | 0, _ => 1
  | k + 1, x => Qr k x * (x - (k : Rat)) / ((k : Rat) + 1)
theorem k1_ne (k : Nat) : ((k : Rat) + 1) ≠ 0 := by
  have : ((k : Rat) + 1) = ((k + 1 : Nat) : Rat) := by grind
  rw [this]
  intro h
  have := Rat.natCast_inj.mp (show ((k + 1 : Nat) : Rat) = ((0 : Nat) : Rat) from h)
  omega
theorem Qr_succ (k : Nat) (x : Rat) : Qr (k + 1) x * ((k : Rat) + 1) = Qr k x * (x - (k : Rat)) := by
  have := k1_ne k
  rw [Qr]
  grind
theorem pascal : ∀ (k : Nat) (x : Rat), Qr (k + 1) (x + 1) = Qr (k + 1) x + Qr k x
  | 0, x => by
    have h1 := Qr_succ 0 (x + 1)
    have h2 := Qr_succ 0 x
    have e0 : ((0 : Nat) : Rat) = 0 := rfl
    rw [e0] at h1 h2
    simp only [Qr] at h1 h2 ⊢
    grind
  | k + 1, x => by
    have h1 := Qr_succ (k + 1) (x + 1)
    have h2 := Qr_succ (k + 1) x
    have h3 := Qr_succ k x
    have ih := pascal k x
    have e : ((k + 1 : Nat) : Rat) = (k : Rat) + 1 := by grind
    rw [e] at h1 h2
    have n1 : ((k : Rat) + 1 + 1) ≠ 0 := by rw [← e]; exact k1_ne (k + 1)
    rw [ih] at h1
    have : (Qr (k + 1 + 1) (x + 1) - Qr (k + 1 + 1) x - Qr (k + 1) x) * ((k : Rat) + 1 + 1) = 0 := by grind
    rcases Rat.mul_eq_zero.mp this with h | h
    · grind
    · exact absurd h n1
theorem Qr_zero : ∀ k : Nat, Qr (k + 1) 0 = 0
  | 0 => by
    have h := Qr_succ 0 0
    have e0 : ((0 : Nat) : Rat) = 0 := rfl
    rw [e0] at h
    grind
  | k + 1 => by rw [Qr, Qr_zero k]; grind
theorem Qr_int : ∀ (k : Nat) (n : Int), ∃ z : Int, Qr k (n : Rat) = (z : Rat)
  | 0, n => ⟨1, rfl⟩
  | k + 1, n => by
    have up : ∀ m : Nat, ∃ z : Int, Qr (k + 1) ((m : Int) : Rat) = (z : Rat) := by
      intro m
      induction m with
      | zero => exact ⟨0, Qr_zero k⟩
      | succ n ih =>
        obtain ⟨z, hz⟩ := ih
        obtain ⟨y, hy⟩ := Qr_int k (n : Int)
        refine ⟨z + y, ?_⟩
        have := pascal k ((n : Int) : Rat)
        rw [hz, hy] at this
        have e : (((n + 1 : Nat) : Int) : Rat) = ((n : Int) : Rat) + 1 := by
          rw [show ((n + 1 : Nat) : Int) = (n : Int) + 1 by omega]; grind
        rw [e, this]
        grind
    have dn : ∀ m : Nat, ∃ z : Int, Qr (k + 1) ((-(m : Int) : Int) : Rat) = (z : Rat) := by
      intro m
      induction m with
      | zero => exact ⟨0, Qr_zero k⟩
      | succ n ih =>
        obtain ⟨z, hz⟩ := ih
        obtain ⟨y, hy⟩ := Qr_int k (-((n + 1 : Nat) : Int))
        refine ⟨z - y, ?_⟩
        have := pascal k ((-((n + 1 : Nat) : Int) : Int) : Rat)
        have e : ((-((n + 1 : Nat) : Int) : Int) : Rat) + 1 = ((-(n : Int) : Int) : Rat) := by
          rw [show (-(n : Int) : Int) = -((n + 1 : Nat) : Int) + 1 by omega]; grind
        rw [e, hz, hy] at this
        grind
    rcases Int.le_total 0 n with h | h
    · obtain ⟨m, rfl⟩ := Int.eq_ofNat_of_zero_le h
      exact up m
    · obtain ⟨m, hm⟩ := Int.eq_ofNat_of_zero_le (show 0 ≤ -n by omega)
      have : n = -(m : Int) := by omega
      rw [this]
      exact dn m
def chz (n : Int) (k : Nat) : Int := (Qr k (n : Rat)).num
theorem chz_eq (n : Int) (k : Nat) : (chz n k : Rat) = Qr k (n : Rat) := by
  obtain ⟨z, hz⟩ := Qr_int k n
  unfold chz
  rw [hz, Rat.num_intCast]
theorem chz_succ (n : Int) (k : Nat) : chz n (k + 1) * ((k : Int) + 1) = chz n k * (n - (k : Int)) := by
  have h := Qr_succ k (n : Rat)
  rw [← chz_eq, ← chz_eq] at h
  have ek : ((k : Int) : Rat) = (k : Rat) := Rat.intCast_natCast k
  have : ((chz n (k + 1) * ((k : Int) + 1) : Int) : Rat) = ((chz n k * (n - (k : Int)) : Int) : Rat) := by grind
  exact Rat.intCast_inj.mp this
theorem chz_zero (n : Int) : chz n 0 = 1 := by
  have := chz_eq n 0
  rw [Qr] at this
  exact Rat.intCast_inj.mp (this.trans rfl)
theorem chz_div (n : Int) (k : Nat) : chz n k * (n - (k : Int)) / ((k : Int) + 1) = chz n (k + 1) := by
  rw [← chz_succ]
  exact Int.mul_ediv_cancel _ (by omega)
theorem chz_size {t : Nat} {n : Int} (hn : Zk t n) : ∀ k : Nat, k ≤ 2 ^ t → Zk ((t + 1) * k + 1) (chz n k)
  | 0, _ => by rw [chz_zero]; show 1 < 2 ^ 1; decide
  | k + 1, hk => by
    have ih := chz_size hn k (by omega)
    have h1 : Zk (t + 1) (n - (k : Int)) := by
      unfold Zk at *
      rw [Nat.pow_succ]
      omega
    have h2 := ih.mul h1
    rw [← chz_div]
    have h3 : (chz n k * (n - (k : Int)) / ((k : Int) + 1)).natAbs ≤ (chz n k * (n - (k : Int))).natAbs := Int.natAbs_ediv_le_natAbs _ _
    refine Nat.lt_of_le_of_lt h3 ?_
    have e : (t + 1) * (k + 1) + 1 = (t + 1) * k + 1 + (t + 1) := by rw [Nat.mul_succ]; omega
    rw [e]
    exact h2
theorem t_choose_eq {t : Nat} {n : Int} {k : Nat} (hn : Zk t n) (hk : k ≤ 2 ^ t) (h : (t + 1) * (k + 2) ≤ 100000) (hk2 : k ≤ 1000) : t_choose (.int n) (.int (k : Int)) = pure (.int (chz n k)) := by
  have main : ∀ (m j : Nat), j + m = k → foldS (fun v (a : Nat) => tlb_choose_1 (.int n) v (.int (a : Int))) (List.range' j m) (.int (chz n j)) = pure (.int (chz n k)) := by
    intro m
    induction m with
    | zero => intro j e; simp at e; subst e; rfl
    | succ m ih =>
      intro j e
      have hj := chz_size hn j (by omega)
      have h1 : Zk (t + 1) (n - (j : Int)) := by
        unfold Zk at *
        rw [Nat.pow_succ]
        omega
      have hs : (t + 1) * j ≤ (t + 1) * k := Nat.mul_le_mul_left _ (by omega)
      have hkk : (t + 1) * (k + 2) = (t + 1) * k + (t + 1) * 2 := Nat.mul_add _ _ _
      have hb : tlb_choose_1 (.int n) (.int (chz n j)) (.int (j : Int)) = pure (.int (chz n (j + 1))) := by
        unfold tlb_choose_1
        simp only [sBin_p, pySub_ii, sOp_d, mul_z hj h1 (by omega), pyAdd_ii]
        rw [fdiv_z (k := 100) (by unfold Zk; exact Nat.lt_of_le_of_lt (show _ ≤ 1000 by omega) (by decide)) (by omega) (by omega)]
        simp only [sOp_d, pure_bind, chz_div]
      rw [List.range'_succ, foldS_cons, hb, pure_bind]
      exact ih (j + 1) (by omega)
  have h0 := main k 0 (by omega)
  rw [← List.range_eq_range', chz_zero] at h0
  unfold t_choose
  simp only [pure_bind, sRange1_p, rng0 (show k ≤ 16777216 by omega), opt_some, ints0, foldS_map, un1_p, h0]
end LR
namespace LR
open PySem L2 DL
abbrev rowL (l : List Rat) : PyData := .list (l.map fr)
abbrev rowT (l : List Rat) : PyData := .tuple (l.map fr)
theorem fr_cm (r : Rat) : Cm 1 (fr r) := Cm.tup fun d hd => by
  simp only [List.mem_cons, List.not_mem_nil, or_false] at hd
  rcases hd with rfl | rfl
  · exact Cm.int _
  · exact Cm.int _
theorem rowT_cm (l : List Rat) : Cm 2 (rowT l) := Cm.tup fun d hd => by obtain ⟨r, _, rfl⟩ := List.mem_map.mp hd; exact fr_cm r
theorem rowL_cm (l : List Rat) : Cm 2 (rowL l) := Cm.lst fun d hd => by obtain ⟨r, _, rfl⟩ := List.mem_map.mp hd; exact fr_cm r
theorem map_fr_inj {l m : List Rat} (h : l.map fr = m.map fr) : l = m := by
  induction l generalizing m with
  | nil => cases m <;> first | rfl | cases h
  | cons a l ih =>
    cases m with
    | nil => cases h
    | cons b m =>
      rw [List.map_cons, List.map_cons] at h
      injection h with h1 h2
      rw [fr_inj h1, ih h2]
theorem rowT_inj {l m : List Rat} (h : rowT l = rowT m) : l = m := by injection h with h; exact map_fr_inj h
@[simp] theorem eq_fr (a b : Rat) : pyEq (fr a) (fr b) = some (.d (.bool (decide (a = b)))) := eq_cmp (fr_cm a) (fr_cm b) (by rw [decide_eq_true_eq]; exact ⟨fun h => by rw [h], fr_inj⟩)
@[simp] theorem ne_fr (a b : Rat) : pyNe (fr a) (fr b) = some (.d (.bool (!decide (a = b)))) := ne_cmp (fr_cm a) (fr_cm b) (by rw [decide_eq_true_eq]; exact ⟨fun h => by rw [h], fr_inj⟩)
theorem eq_rowT (l m : List Rat) : pyEq (rowT l) (rowT m) = some (.d (.bool (decide (l = m)))) := eq_cmp (rowT_cm l) (rowT_cm m) (by rw [decide_eq_true_eq]; exact ⟨fun h => by rw [h], rowT_inj⟩)
theorem ne_rowT (l m : List Rat) : pyNe (rowT l) (rowT m) = some (.d (.bool (!decide (l = m)))) := ne_cmp (rowT_cm l) (rowT_cm m) (by rw [decide_eq_true_eq]; exact ⟨fun h => by rw [h], rowT_inj⟩)
/-! without noughts behind -/
def trim : List Rat → List Rat
  | [] => []
  | a :: l => if trim l = [] ∧ a = 0 then [] else a :: trim l
theorem trim_take : ∀ l : List Rat, trim l = l.take (trim l).length
  | [] => rfl
  | a :: l => by
    have ih := trim_take l
    rw [trim]
    split
    · rfl
    · rw [List.length_cons, List.take_succ_cons, ← ih]
theorem trim_le : ∀ l : List Rat, (trim l).length ≤ l.length
  | [] => Nat.le_refl _
  | a :: l => by
    have := trim_le l
    rw [trim]
    split
    · simp
    · simpa using this
theorem trim_snoc_zero : ∀ l : List Rat, trim (l ++ [0]) = trim l
  | [] => by simp [trim]
  | a :: l => by rw [List.cons_append, trim, trim, trim_snoc_zero l]
theorem trim_snoc : ∀ (l : List Rat) (a : Rat), a ≠ 0 → trim (l ++ [a]) = l ++ [a]
  | [], a, h => by simp [trim, h]
  | b :: l, a, h => by
    rw [List.cons_append, trim, trim_snoc l a h]
    simp
/-- what a row has at k -/
def coef (l : List Rat) (k : Nat) : Rat := l.getD k 0
theorem coef_trim : ∀ (l : List Rat) (k : Nat), coef (trim l) k = coef l k
  | [], k => rfl
  | a :: l, 0 => by
    unfold coef
    rw [trim]
    split
    · rename_i h; simp [h.2]
    · simp
  | a :: l, k + 1 => by
    have ih := coef_trim l k
    unfold coef at *
    rw [trim]
    split
    · rename_i h
      rw [h.1] at ih
      simp at ih ⊢
      exact ih
    · simpa using ih
/-- a row: the last one not 0 -/
def Trim (l : List Rat) : Prop := trim l = l
theorem trim_trim : ∀ l : List Rat, trim (trim l) = trim l
  | [] => rfl
  | a :: l => by
    have ih := trim_trim l
    by_cases h : trim l = [] ∧ a = 0
    · have e : trim (a :: l) = [] := by rw [trim, if_pos h]
      rw [e]; rfl
    · have e : trim (a :: l) = a :: trim l := by rw [trim, if_neg h]
      rw [e, trim, ih, if_neg h]
theorem trim_nil {l : List Rat} (h : ∀ k, coef l k = 0) : trim l = [] := by
  induction l with
  | nil => rfl
  | cons a l ih =>
    have h0 : a = 0 := h 0
    have := ih fun k => h (k + 1)
    rw [trim, if_pos ⟨this, h0⟩]
theorem trim_ext : ∀ {l m : List Rat}, (∀ k, coef l k = coef m k) → trim l = trim m
  | [], m, h => (trim_nil fun k => (h k).symm).symm ▸ rfl
  | a :: l, [], h => trim_nil h
  | a :: l, b :: m, h => by
    have h0 : a = b := h 0
    have ih := trim_ext (l := l) (m := m) fun k => h (k + 1)
    rw [trim, trim, h0, ih]
theorem Trim.ext {l m : List Rat} (hl : Trim l) (hm : Trim m) (h : ∀ k, coef l k = coef m k) : l = m := by
  rw [← hl, ← hm]; exact trim_ext h
theorem ix_frL {l : List Rat} {k : Nat} (h : k < l.length) : pyIx (rowL l) (.int (k : Int)) = some (.d (fr (coef l k))) := by
  have e : (l.map fr)[k]? = some (fr l[k]) := by rw [List.getElem?_map, List.getElem?_eq_getElem h]; rfl
  have : atI (l.map fr) (k : Int) = some (fr l[k]) := atI_nat e
  have e2 : coef l k = l[k] := by unfold coef; rw [List.getD_eq_getElem?_getD, List.getElem?_eq_getElem h]; rfl
  simp only [pyIx, this, Option.map_some, e2]
theorem ix_frT {l : List Rat} {k : Nat} (h : k < l.length) : pyIx (rowT l) (.int (k : Int)) = some (.d (fr (coef l k))) := by
  have e : (l.map fr)[k]? = some (fr l[k]) := by rw [List.getElem?_map, List.getElem?_eq_getElem h]; rfl
  have : atI (l.map fr) (k : Int) = some (fr l[k]) := atI_nat e
  have e2 : coef l k = l[k] := by unfold coef; rw [List.getD_eq_getElem?_getD, List.getElem?_eq_getElem h]; rfl
  simp only [pyIx, this, Option.map_some, e2]
theorem trim_take_zero {l : List Rat} {k : Nat} (hk : k < l.length) (h : coef l k = 0) : trim (l.take (k + 1)) = trim (l.take k) := by
  have e2 : coef l k = l[k] := by unfold coef; rw [List.getD_eq_getElem?_getD, List.getElem?_eq_getElem hk]; rfl
  rw [List.take_succ_eq_append_getElem hk, ← e2, h, trim_snoc_zero]
theorem trim_take_ne {l : List Rat} {k : Nat} (hk : k < l.length) (h : coef l k ≠ 0) : trim (l.take (k + 1)) = l.take (k + 1) := by
  have e2 : coef l k = l[k] := by unfold coef; rw [List.getD_eq_getElem?_getD, List.getElem?_eq_getElem hk]; rfl
  rw [List.take_succ_eq_append_getElem hk, ← e2, trim_snoc _ _ h]
theorem row_while {l : List Rat} : ∀ (k f : Nat), k ≤ l.length → k < f → whileS (twc_row_of_1 (rowL l)) twb_row_of_2 f (.int (k : Int)) = pure (.int ((trim (l.take k)).length : Nat))
  | 0, f + 1, _, _ => by
    unfold whileS twc_row_of_1
    simp
    rfl
  | k + 1, f + 1, hk, hf => by
    unfold whileS
    have e : ((k + 1 : Nat) : Int) - 1 = (k : Int) := by omega
    have hp : (0 : Int) < ((k + 1 : Nat) : Int) := by omega
    have hc : twc_row_of_1 (rowL l) (.int ((k + 1 : Nat) : Int)) = pure (decide (coef l k = 0)) := by
      unfold twc_row_of_1
      simp only [sBin_p, pyGt_ii, hp, decide_true, sOp_d, sBool_p, sAndT_p, if_true, pySub_ii, e]
      rw [ix_frL (by omega)]
      simp only [sOp_d, fr_zero, sBin_p, eq_fr, sBool_p]
    have hb : twb_row_of_2 (.int ((k + 1 : Nat) : Int)) = pure (.int (k : Int)) := by
      unfold twb_row_of_2
      simp only [sBin_p, pySub_ii, sOp_d, e, pure_bind]
    rw [hc, pure_bind]
    by_cases h : coef l k = 0
    · rw [decide_eq_true h, if_pos rfl, hb, pure_bind, row_while k f (by omega) (by omega), trim_take_zero (by omega) h]
    · rw [decide_eq_false h, if_neg Bool.false_ne_true, trim_take_ne (by omega) h, List.length_take, Nat.min_eq_left hk]
theorem t_row_of_eq {l : List Rat} (h : l.length ≤ 100000) : t_row_of (rowL l) = pure (rowT (trim l)) := by
  have hw := row_while (l := l) l.length fuel_row_of (Nat.le_refl _) (by unfold fuel_row_of; omega)
  rw [List.take_length] at hw
  have hc : cutD (l.map fr) none (some ((trim l).length : Nat)) = (trim l).map fr := by
    rw [cut_upto (by rw [List.length_map]; exact trim_le l), ← List.map_take, ← trim_take]
  unfold t_row_of
  simp only [sNil_p, sCons_p, sCallB_p, len_l, List.length_map, sOp_d, pure_bind, hw, partS_i, sSl_p, sl_l, hc, sOp_fr, tupOf_l]
/-! made as long as another -/
def wideR (l : List Rat) (n : Nat) : List Rat := l ++ List.replicate (n - l.length) 0
theorem coef_wide (l : List Rat) (n k : Nat) : coef (wideR l n) k = coef l k := by
  unfold coef wideR
  rw [List.getD_eq_getElem?_getD, List.getD_eq_getElem?_getD]
  rcases Nat.lt_or_ge k l.length with h | h
  · rw [List.getElem?_append_left h]
  · rw [List.getElem?_append_right h, List.getElem?_eq_none h, List.getElem?_replicate]
    split <;> rfl
theorem wideR_len {l : List Rat} {n : Nat} (h : l.length ≤ n) : (wideR l n).length = n := by unfold wideR; simp; omega
theorem t_wide_eq {l : List Rat} {n : Nat} (x : PyData) (hx : x = rowT l ∨ x = rowL l) (h : l.length ≤ 100000) (hn : n ≤ 100000) : t_wide x (.int (n : Int)) = pure (rowL (wideR l n)) := by
  have hm : pyMul (.list [fr 0]) (.int ((n : Int) - (l.length : Int))) = some (.fr (.list ((List.replicate (n - l.length) (0 : Rat)).map fr))) := by
    have e : ((n : Int) - (l.length : Int)).toNat = n - l.length := by omega
    have h1 : ((n : Int) - (l.length : Int)).natAbs < 2 ^ 62 := by omega
    have h2 : [fr 0].length * ((n : Int) - (l.length : Int)).toNat ≤ sizeLine := by rw [sizeLine_eq, e]; simp; omega
    have e3 : (List.replicate (n - l.length) [fr 0]).flatten = (List.replicate (n - l.length) (0 : Rat)).map fr := by
      rw [List.map_replicate]
      induction n - l.length with
      | zero => rfl
      | succ m ih => rw [List.replicate_succ, List.replicate_succ, List.flatten_cons, ih]; rfl
    show (if decide _ && decide _ then _ else _) = _
    rw [decide_eq_true h1, decide_eq_true h2, e, e3]
    rfl
  have z : (l.map fr ++ (List.replicate (n - l.length) (0 : Rat)).map fr).length ≤ 16777216 := by simp; omega
  unfold t_wide
  rcases hx with rfl | rfl
  · simp only [sNil_p, sCons_p, sLst_p, sSz_1, fr_zero, sCallB_p, len_t, List.length_map, sOp_d, sBin_p, pySub_ii, hm, sOp_fr, sStar_l, sStar_t, sSz_eq PyData.list z, List.append_nil, wideR, rowL, List.map_append]
  · simp only [sNil_p, sCons_p, sLst_p, sSz_1, fr_zero, sCallB_p, len_l, List.length_map, sOp_d, sBin_p, pySub_ii, hm, sOp_fr, sStar_l, sStar_t, sSz_eq PyData.list z, List.append_nil, wideR, rowL, List.map_append]
end LR
namespace LR
open PySem L2 DL
def SzA (m k : Nat) (l : List Rat) : Prop := ∀ c ∈ l, Sz m k c
theorem SzA.coef {m k : Nat} {l : List Rat} (h : SzA m k l) (hk : 1 ≤ k) (i : Nat) : Sz m k (coef l i) := by
  unfold LR.coef
  rw [List.getD_eq_getElem?_getD]
  cases q : l[i]? with
  | none => exact Sz.zero.up (Nat.le_refl _) hk
  | some c => exact h c (List.mem_of_getElem? q)
theorem SzA.up {m k m' k' : Nat} {l : List Rat} (h : SzA m k l) (h1 : m ≤ m') (h2 : k ≤ k') : SzA m' k' l := fun c hc => (h c hc).up h1 h2
theorem SzA.trim {m k : Nat} {l : List Rat} (h : SzA m k l) : SzA m k (trim l) := fun c hc => h c (by rw [trim_take] at hc; exact List.mem_of_mem_take hc)
theorem SzA.wide {m k n : Nat} {l : List Rat} (h : SzA m k l) (hk : 1 ≤ k) : SzA m k (wideR l n) := fun c hc => by
  unfold wideR at hc
  rcases List.mem_append.mp hc with hc | hc
  · exact h c hc
  · rw [(List.mem_replicate.mp hc).2]; exact Sz.zero.up (Nat.le_refl _) hk
/-! member by member -/
theorem zipped_fr : ∀ a b : List Rat, zipped (a.map fr) (b.map fr) = (List.zip a b).map fun p => .tuple [fr p.1, fr p.2]
  | [], _ => by simp [zipped]
  | _ :: _, [] => by simp [zipped]
  | x :: a, y :: b => by
    have := zipped_fr a b
    unfold zipped at this ⊢
    simp [this]
def zipR (f : Rat → Rat → Rat) (a b : List Rat) : List Rat := (List.zip (wideR a (max a.length b.length)) (wideR b (max a.length b.length))).map fun p => f p.1 p.2
theorem coef_zipR {f : Rat → Rat → Rat} (f0 : f 0 0 = 0) (a b : List Rat) (k : Nat) : coef (zipR f a b) k = f (coef a k) (coef b k) := by
  rw [← coef_wide a (max a.length b.length) k, ← coef_wide b (max a.length b.length) k]
  have la := wideR_len (l := a) (n := max a.length b.length) (Nat.le_max_left _ _)
  have lb := wideR_len (l := b) (n := max a.length b.length) (Nat.le_max_right _ _)
  unfold zipR coef
  rw [List.getD_eq_getElem?_getD, List.getD_eq_getElem?_getD, List.getD_eq_getElem?_getD, List.getElem?_map]
  rcases Nat.lt_or_ge k (max a.length b.length) with h | h
  · rw [List.getElem?_eq_getElem (l := List.zip _ _) (by rw [List.length_zip, la, lb]; omega), List.getElem?_eq_getElem (l := wideR a _) (by omega), List.getElem?_eq_getElem (l := wideR b _) (by omega)]
    simp
  · rw [List.getElem?_eq_none (l := List.zip _ _) (by rw [List.length_zip, la, lb]; omega), List.getElem?_eq_none (l := wideR a _) (by omega), List.getElem?_eq_none (l := wideR b _) (by omega)]
    simp [f0]
theorem zipR_len (f : Rat → Rat → Rat) (a b : List Rat) : (zipR f a b).length = max a.length b.length := by
  unfold zipR
  rw [List.length_map, List.length_zip, wideR_len (Nat.le_max_left _ _), wideR_len (Nat.le_max_right _ _)]
  omega
theorem zipR_mem {f : Rat → Rat → Rat} {a b : List Rat} {c : Rat} (h : c ∈ zipR f a b) : ∃ x y, x ∈ wideR a (max a.length b.length) ∧ y ∈ wideR b (max a.length b.length) ∧ c = f x y := by
  obtain ⟨p, hp, rfl⟩ := List.mem_map.mp h
  exact ⟨p.1, p.2, (List.of_mem_zip hp).1, (List.of_mem_zip hp).2, rfl⟩
def sumR (a b : List Rat) : List Rat := trim (zipR (· + ·) a b)
def lessR (a b : List Rat) : List Rat := trim (zipR (· - ·) a b)
theorem coef_sum (a b : List Rat) (k : Nat) : coef (sumR a b) k = coef a k + coef b k := by
  unfold sumR; rw [coef_trim, coef_zipR (by grind)]
theorem coef_less (a b : List Rat) (k : Nat) : coef (lessR a b) k = coef a k - coef b k := by
  unfold lessR; rw [coef_trim, coef_zipR (by grind)]
theorem max2_i (i j : Nat) : pyMax2 [.int (i : Int), .int (j : Int)] = some (.d (.int ((max i j : Nat) : Int))) := by
  show some (oneI _) = _
  congr 2
  split <;> omega
section
variable {a b : List Rat}
theorem t_row_sum_eq (ha : SzA 400000 4000 a) (hb : SzA 400000 4000 b) (la : a.length ≤ 10000) (lb : b.length ≤ 10000) : t_row_sum (rowT a) (rowT b) = pure (rowT (sumR a b)) := by
  have hm : mapG (fun p : Rat × Rat => t_fraction_sum (fr p.1) (fr p.2)) (List.zip (wideR a (max a.length b.length)) (wideR b (max a.length b.length))) = pure ((zipR (· + ·) a b).map fr) := mapG_enc fr _ fun p hp => t_fraction_sum_eq (ha.wide (by omega) _ (List.of_mem_zip hp).1) (hb.wide (by omega) _ (List.of_mem_zip hp).2)
  have zl := zipR_len (· + ·) a b
  unfold t_row_sum
  simp only [sNil_p, sCons_p, sCallB_p, len_t, List.length_map, sOp_d, max2_i, pure_bind, t_wide_eq (rowT a) (.inl rfl) (show a.length ≤ 100000 by omega) (show max a.length b.length ≤ 100000 by omega), t_wide_eq (rowT b) (.inl rfl) (show b.length ≤ 100000 by omega) (show max a.length b.length ≤ 100000 by omega), sZip_l, zipped_fr, sCompA_p, mapG_map, un2_p, opt_some, hm]
  rw [sSz_eq _ (by rw [List.length_map, zl]; omega), pure_bind, t_row_of_eq (by omega)]
  rfl
theorem t_row_less_eq (ha : SzA 400000 4000 a) (hb : SzA 400000 4000 b) (la : a.length ≤ 10000) (lb : b.length ≤ 10000) : t_row_less (rowT a) (rowT b) = pure (rowT (lessR a b)) := by
  have hm : mapG (fun p : Rat × Rat => t_fraction_less (fr p.1) (fr p.2)) (List.zip (wideR a (max a.length b.length)) (wideR b (max a.length b.length))) = pure ((zipR (· - ·) a b).map fr) := mapG_enc fr _ fun p hp => t_fraction_less_eq (ha.wide (by omega) _ (List.of_mem_zip hp).1) (hb.wide (by omega) _ (List.of_mem_zip hp).2)
  have zl := zipR_len (· - ·) a b
  unfold t_row_less
  simp only [sNil_p, sCons_p, sCallB_p, len_t, List.length_map, sOp_d, max2_i, pure_bind, t_wide_eq (rowT a) (.inl rfl) (show a.length ≤ 100000 by omega) (show max a.length b.length ≤ 100000 by omega), t_wide_eq (rowT b) (.inl rfl) (show b.length ≤ 100000 by omega) (show max a.length b.length ≤ 100000 by omega), sZip_l, zipped_fr, sCompA_p, mapG_map, un2_p, opt_some, hm]
  rw [sSz_eq _ (by rw [List.length_map, zl]; omega), pure_bind, t_row_of_eq (by omega)]
  rfl
end
/-! what a row is at n -/
def evR : Nat → List Rat → Rat → Rat
  | _, [], _ => 0
  | k, c :: l, x => Qr k x * c + evR (k + 1) l x
def sumZ (l : List (Rat × Nat)) (n : Int) : Rat := l.foldl (fun acc p => acc + (chz n p.2 : Rat) * p.1) 0
theorem fold_ev (n : Int) : ∀ (l : List Rat) (k : Nat) (acc : Rat), (l.zipIdx k).foldl (fun acc p => acc + (chz n p.2 : Rat) * p.1) acc = acc + evR k l (n : Rat)
  | [], k, acc => by simp [evR]; grind
  | c :: l, k, acc => by
    rw [List.zipIdx_cons, List.foldl_cons, fold_ev n l (k + 1), evR, chz_eq]
    grind
theorem numbered_fr (l : List Rat) (k : Nat) : DL.numbered k (l.map fr) = (l.zipIdx k).map fun p => .tuple [.int (p.2 : Nat), fr p.1] := by
  induction l generalizing k with
  | nil => rfl
  | cons x l ih => rw [List.map_cons, DL.numbered, ih (k + 1), List.zipIdx_cons, List.map_cons]
structure RowN (t N D : Nat) (l : List Rat) (n : Int) : Prop where
  sz : SzA N D l
  z : Zk t n
  l1 : l.length ≤ 1000
  l2 : l.length ≤ 2 ^ t
  b1 : (t + 1) * (l.length + 2) + N + l.length * (D + 2) ≤ 99000
  b2 : l.length * (D + 1) + D ≤ 3900
theorem row_at_step {t N D m : Nat} {n : Int} {l : List Rat} (R : RowN t N D l n) {k : Nat} {c : Rat} (hk : k < l.length) (hc : c ∈ l) {acc : Rat} (ha : Sz ((t + 1) * l.length + 1 + N + m * (D + 2) + 1) (m * (D + 1) + 1) acc) (hm : m < l.length) :
    tlb_row_at_1 (.int n) (fr acc) (.int (k : Int), fr c) = pure (fr (acc + (chz n k : Rat) * c)) ∧ Sz ((t + 1) * l.length + 1 + N + (m + 1) * (D + 2) + 1) ((m + 1) * (D + 1) + 1) (acc + (chz n k : Rat) * c) := by
  have hb1 := R.b1
  have hb2 := R.b2
  have hz := chz_size R.z k (by have := R.l2; omega)
  have e0 : (t + 1) * k ≤ (t + 1) * l.length := Nat.mul_le_mul_left _ (by omega)
  have e1 : (t + 1) * (l.length + 2) = (t + 1) * l.length + (t + 1) * 2 := Nat.mul_add _ _ _
  have e2 : (t + 1) * (k + 2) = (t + 1) * k + (t + 1) * 2 := Nat.mul_add _ _ _
  have e3 : (m + 1) * (D + 2) = m * (D + 2) + (D + 2) := Nat.succ_mul _ _
  have e4 : (m + 1) * (D + 1) = m * (D + 1) + (D + 1) := Nat.succ_mul _ _
  have e5 : m * (D + 2) = m * (D + 1) + m := by rw [show D + 2 = D + 1 + 1 from rfl, Nat.mul_succ]
  have e6 : (m + 1) * (D + 2) ≤ l.length * (D + 2) := Nat.mul_le_mul_right _ (by omega)
  have e7 : (m + 1) * (D + 1) ≤ l.length * (D + 1) := Nat.mul_le_mul_right _ (by omega)
  have ht : Sz ((t + 1) * l.length + 1 + N) (D + 1) ((chz n k : Rat) * c) := ((Sz.int hz).mul (R.sz c hc)).up (by omega) (by omega)
  refine ⟨?_, ((ha.add ht (c := (t + 1) * l.length + 1 + N + m * (D + 2) + D + 2) (by omega) (by omega)).up (by omega) (by omega))⟩
  unfold tlb_row_at_1
  simp only [pure_bind, t_choose_eq R.z (show k ≤ 2 ^ t by have := R.l2; omega) (show (t + 1) * (k + 2) ≤ 100000 by omega) (show k ≤ 1000 by have := R.l1; omega)]
  have hs1 : Sz 400000 4000 ((chz n k : Int) : Rat) := (Sz.int hz).up (by omega) (by omega)
  have hs2 : Sz 400000 4000 c := (R.sz c hc).up (by omega) (by omega)
  simp only [sNil_p, sCons_p, sTup_p, sSz_2, pure_bind, fr_int]
  rw [t_fraction_times_eq hs1 hs2, pure_bind, t_fraction_sum_eq (ha.up (by omega) (by omega)) (ht.up (by omega) (by omega))]
  simp
theorem t_row_at_eq {t N D : Nat} {n : Int} {l : List Rat} (x : PyData) (hx : x = rowT l ∨ x = rowL l) (R : RowN t N D l n) : t_row_at x (.int n) = pure (fr (evR 0 l (n : Rat))) := by
  have main : ∀ (r : List Rat) (k : Nat) (acc : Rat), (∀ c ∈ r, c ∈ l) → k + r.length = l.length → Sz ((t + 1) * l.length + 1 + N + k * (D + 2) + 1) (k * (D + 1) + 1) acc →
      foldS (fun v (p : Rat × Nat) => tlb_row_at_1 (.int n) v (.int (p.2 : Nat), fr p.1)) (r.zipIdx k) (fr acc) = pure (fr (acc + evR k r (n : Rat))) := by
    intro r
    induction r with
    | nil => intro k acc _ _ _; simp [evR]; grind
    | cons c r ih =>
      intro k acc hr hk ha
      rw [List.length_cons] at hk
      obtain ⟨h1, h2⟩ := row_at_step R (k := k) (c := c) (by omega) (hr c (by simp)) (m := k) ha (by omega)
      rw [List.zipIdx_cons, foldS_cons, h1, pure_bind, ih (k + 1) _ (fun d hd => hr d (List.mem_cons_of_mem _ hd)) (by omega) h2, evR, chz_eq]
      congr 2
      grind
  have h0 := main l 0 0 (fun _ h => h) (by omega) (Sz.zero.up (Nat.le_refl _) (by omega))
  have e : (0 : Rat) + evR 0 l (n : Rat) = evR 0 l (n : Rat) := by grind
  rw [e] at h0
  unfold t_row_at
  rcases hx with rfl | rfl
  · simp only [pure_bind, sEnum_t, numbered_fr, foldS_map, un2_p, opt_some, fr_zero, h0]
  · simp only [pure_bind, sEnum_l, numbered_fr, foldS_map, un2_p, opt_some, fr_zero, h0]
end LR
namespace LR
open PySem L2 DL
def twc__law_low_1 (v : PyData × PyData) : S Bool :=
  (sBool (sBin pyGt (pure v.2) (pure (.int 0))))
def twb__law_low_2 (v : PyData × PyData) : S (PyData × PyData) :=
  (((sCons (pure v.2) (sCons (sBin pyMod (sCallB pyInt (sCons (pure v.1) sNil)) (pure v.2)) sNil)) >>= fun xs => S.opt (two xs)) >>= fun v3 => pure (v3.1, v3.2))
def fuel__law_low : Nat := 1000000
def t__law_low (x0 x1 : PyData) : S PyData :=
  (((sCons (sCallB pyAbs (sCons (pure x0) sNil)) (sCons (pure x1) sNil)) >>= fun xs => S.opt (two xs)) >>= fun v1 => ((whileS twc__law_low_1 twb__law_low_2 fuel__law_low (v1.1, v1.2)) >>= fun v4 => (sTup (sCons (sBin pyFloorDiv (pure x0) (pure v4.1)) (sCons (sBin pyFloorDiv (pure x1) (pure v4.1)) sNil)))))
def t__law_plus (x0 x1 x2 : PyData) : S PyData :=
  ((sBin pyAdd (sBin pyMul (sBin pyIx (pure x0) (pure (.int 0))) (sBin pyIx (pure x1) (pure (.int 1)))) (sBin pyMul (sBin pyMul (pure x2) (sBin pyIx (pure x1) (pure (.int 0)))) (sBin pyIx (pure x0) (pure (.int 1))))) >>= fun y1 => ((sBin pyMul (sBin pyIx (pure x0) (pure (.int 1))) (sBin pyIx (pure x1) (pure (.int 1)))) >>= fun y2 => t__law_low y1 y2))
def twc__law_trimmed_1 (v : PyData) : S Bool :=
  (sAndT (sBool (sBin pyNe (pure v) (sLst sNil))) (sBool (sBin pyEq (sBin pyIx (pure v) (sUn pyNeg (pure (.int 1)))) (sTup (sCons (pure (.int 0)) (sCons (pure (.int 1)) sNil))))))
def twb__law_trimmed_2 (v : PyData) : S (PyData) :=
  ((popS v >>= fun q => pure q.2) >>= fun v3 => pure v3)
def fuel__law_trimmed : Nat := 1000000
def t__law_trimmed (x0 : PyData) : S PyData :=
  ((sCallB pyListOf (sCons (pure x0) sNil)) >>= fun v1 => ((whileS twc__law_trimmed_1 twb__law_trimmed_2 fuel__law_trimmed v1) >>= fun v4 => (sCallB pyTupOf (sCons (pure v4) sNil))))
def tlb__law_less_1 (p0 : PyData) (p1 : PyData) (v : PyData) (q : PyData) : S (PyData) :=
  ((((sIf (sBool (sBin pyLt (pure q) (sCallB DL.pyLen (sCons (pure p0) sNil)))) (sBin pyIx (pure p0) (pure q)) (sTup (sCons (pure (.int 0)) (sCons (pure (.int 1)) sNil)))) >>= fun y2 => ((sIf (sBool (sBin pyLt (pure q) (sCallB DL.pyLen (sCons (pure p1) sNil)))) (sBin pyIx (pure p1) (pure q)) (sTup (sCons (pure (.int 0)) (sCons (pure (.int 1)) sNil)))) >>= fun y3 => ((sUn pyNeg (pure (.int 1))) >>= fun y4 => t__law_plus y2 y3 y4))) >>= fun y5 => appS v y5) >>= fun v6 => pure v6)
def t__law_less (x0 x1 : PyData) : S PyData :=
  ((sLst sNil) >>= fun v1 => (((sRange1 (sCallB pyMax2 (sCons (sCallB DL.pyLen (sCons (pure x0) sNil)) (sCons (sCallB DL.pyLen (sCons (pure x1) sNil)) sNil)))) >>= fun xs_ => foldS (fun w_ x_ => S.opt (un1 x_) >>= (tlb__law_less_1 x0 x1) w_) xs_ v1) >>= fun v9 => ((pure v9) >>= fun y10 => t__law_trimmed y10)))
def tlb__law_at_1 (p1 : PyData) (v : PyData × PyData) (q : PyData × PyData) : S (PyData × PyData) :=
  (((pure v.1) >>= fun y2 => ((pure q.2) >>= fun y3 => ((pure v.2) >>= fun y4 => t__law_plus y2 y3 y4))) >>= fun v5 => ((sBin pyFloorDiv (sBin pyMul (pure v.2) (sBin pySub (pure p1) (pure q.1))) (sBin pyAdd (pure q.1) (pure (.int 1)))) >>= fun v6 => pure (v5, v6)))
def t__law_at (x0 x1 : PyData) : S PyData :=
  (((sTup (sCons (sTup (sCons (pure (.int 0)) (sCons (pure (.int 1)) sNil))) (sCons (pure (.int 1)) sNil))) >>= fun x => S.opt (un2 x)) >>= fun v1 => (((sEnum (pure x0)) >>= fun xs_ => foldS (fun w_ x_ => S.opt (un2 x_) >>= (tlb__law_at_1 x1) w_) xs_ (v1.1, v1.2)) >>= fun v9 => (pure v9.1)))
def t__law_once (x0 : PyData) : S PyData :=
  ((sCompA un2 (sEnum (pure x0)) (fun q1 => (sIf (sBool (sBin pyLt (sBin pyAdd (pure q1.1) (pure (.int 1))) (sCallB DL.pyLen (sCons (pure x0) sNil)))) ((pure q1.2) >>= fun y2 => ((sBin pyIx (pure x0) (sBin pyAdd (pure q1.1) (pure (.int 1)))) >>= fun y3 => ((pure (.int 1)) >>= fun y4 => t__law_plus y2 y3 y4))) (pure q1.2)))) >>= fun y5 => t__law_trimmed y5)
end LR
namespace LR
open PySem L2 DL
/-! shifted rows -/
def onR : List Rat → List Rat
  | [] => []
  | [c] => [c]
  | c :: d :: l => (c + d) :: onR (d :: l)
def shR (m : Int) : List Rat → List Rat
  | [] => []
  | c :: l => evR 0 (c :: l) (m : Rat) :: shR m l
theorem onR_len : ∀ l : List Rat, (onR l).length = l.length
  | [] => rfl
  | [c] => rfl
  | c :: d :: l => by rw [onR, List.length_cons, onR_len (d :: l)]; rfl
theorem shR_len (m : Int) : ∀ l : List Rat, (shR m l).length = l.length
  | [] => rfl
  | c :: l => by rw [shR, List.length_cons, shR_len m l]; rfl
theorem coef_on : ∀ (l : List Rat) (k : Nat), coef (onR l) k = coef l k + coef l (k + 1)
  | [], k => by unfold coef; simp [onR]; grind
  | [c], 0 => by unfold coef; simp [onR]; grind
  | [c], k + 1 => by unfold coef; simp [onR]; grind
  | c :: d :: l, 0 => by unfold coef; simp [onR]
  | c :: d :: l, k + 1 => by
    have := coef_on (d :: l) k
    unfold coef at *
    rw [onR]
    simpa using this
theorem ev_pascal : ∀ (l : List Rat) (k : Nat) (x : Rat), evR (k + 1) l (x + 1) = evR (k + 1) l x + evR k l x
  | [], k, x => by simp [evR]; grind
  | c :: l, k, x => by
    have h1 := ev_pascal l (k + 1) x
    have h2 := pascal k x
    rw [evR, evR, evR, h1, h2]
    grind
theorem ev_on' : ∀ (l : List Rat) (c : Rat) (k : Nat) (x : Rat), evR k (onR (c :: l)) x = Qr k x * c + evR (k + 1) l (x + 1)
  | [], c, k, x => by simp [onR, evR]
  | d :: l, c, k, x => by
    have h1 := ev_on' l d (k + 1) x
    have h2 := pascal k x
    rw [onR, evR, h1, evR, h2]
    grind
theorem ev_on (l : List Rat) (x : Rat) : evR 0 (onR l) x = evR 0 l (x + 1) := by
  cases l with
  | nil => rfl
  | cons c l =>
    rw [ev_on', evR]
    simp [Qr]
theorem ev0 (c : Rat) (l : List Rat) (x : Rat) : evR 0 (c :: l) x = c + evR 1 l x := by
  rw [evR]
  simp [Qr]
theorem sh_succ (m : Int) : ∀ l : List Rat, shR (m + 1) l = onR (shR m l)
  | [] => rfl
  | [c] => by simp [shR, onR, evR, Qr]
  | c :: d :: l => by
    have ih := sh_succ m (d :: l)
    have e : ((m + 1 : Int) : Rat) = (m : Rat) + 1 := by grind
    have h : evR 0 (c :: d :: l) ((m : Rat) + 1) = evR 0 (c :: d :: l) (m : Rat) + evR 0 (d :: l) (m : Rat) := by
      have := ev_pascal (d :: l) 0 (m : Rat)
      rw [ev0, this, ev0 c]
      grind
    rw [shR, ih, e, h]
    rfl
theorem ev_zero : ∀ (l : List Rat) (k : Nat), evR (k + 1) l 0 = 0
  | [], k => rfl
  | c :: l, k => by rw [evR, ev_zero l (k + 1), Qr_zero]; grind
theorem sh_zero : ∀ l : List Rat, shR 0 l = l
  | [] => rfl
  | c :: l => by
    have e : ((0 : Int) : Rat) = 0 := rfl
    rw [shR, sh_zero l, e, evR, ev_zero]
    simp only [Qr]
    congr 1
    grind
theorem ev_sh (l : List Rat) (m : Int) (x : Rat) : evR 0 (shR m l) x = evR 0 l (x + (m : Rat)) := by
  have up : ∀ (j : Nat) (x : Rat), evR 0 (shR (j : Int) l) x = evR 0 l (x + ((j : Int) : Rat)) := by
    intro j
    induction j with
    | zero => intro x; rw [show ((0 : Nat) : Int) = 0 from rfl, sh_zero]; congr 1; have : ((0 : Int) : Rat) = 0 := rfl; rw [this]; grind
    | succ j ih =>
      intro x
      rw [show ((j + 1 : Nat) : Int) = (j : Int) + 1 by omega, sh_succ, ev_on, ih]
      congr 1
      grind
  have dn : ∀ (j : Nat) (x : Rat), evR 0 (shR (-(j : Int)) l) x = evR 0 l (x + ((-(j : Int) : Int) : Rat)) := by
    intro j
    induction j with
    | zero => exact fun x => up 0 x
    | succ j ih =>
      intro x
      have h := sh_succ (-((j + 1 : Nat) : Int)) l
      rw [show -((j + 1 : Nat) : Int) + 1 = -(j : Int) by omega] at h
      have h2 := ih (x - 1)
      rw [h, ev_on, show x - 1 + 1 = x by grind] at h2
      rw [h2]
      congr 1
      rw [show (-((j + 1 : Nat) : Int) : Int) = -(j : Int) - 1 by omega]
      grind
  rcases Int.le_total 0 m with h | h
  · obtain ⟨j, rfl⟩ := Int.eq_ofNat_of_zero_le h
    exact up j x
  · obtain ⟨j, hj⟩ := Int.eq_ofNat_of_zero_le (show 0 ≤ -m by omega)
    have : m = -(j : Int) := by omega
    rw [this]
    exact dn j x
theorem ev_trim : ∀ (l : List Rat) (k : Nat) (x : Rat), evR k (trim l) x = evR k l x
  | [], k, x => rfl
  | c :: l, k, x => by
    have ih := ev_trim l (k + 1) x
    rw [trim]
    split
    · rename_i h
      rw [h.1] at ih
      rw [evR, evR, ← ih, h.2, evR]
      grind
    · rw [evR, evR, ih]
/-! by what rows are told apart -/
theorem Q_above : ∀ (n k : Nat), n < k → Qr k (n : Rat) = 0
  | n, k + 1, h => by
    rcases Nat.lt_or_ge n k with h2 | h2
    · rw [Qr, Q_above n k h2]; grind
    · have : n = k := by omega
      subst this
      rw [Qr]
      have : (n : Rat) - (n : Rat) = 0 := by grind
      rw [this]; grind
theorem Q_same : ∀ n : Nat, Qr n (n : Rat) = 1
  | 0 => rfl
  | n + 1 => by
    have h := pascal n (n : Rat)
    have e : ((n + 1 : Nat) : Rat) = (n : Rat) + 1 := by grind
    rw [e, h, Q_same n, Q_above n (n + 1) (by omega)]
    grind
theorem ev_above (n : Nat) : ∀ (l : List Rat) (k : Nat), n < k → evR k l (n : Rat) = 0
  | [], _, _ => rfl
  | c :: l, k, h => by rw [evR, Q_above n k h, ev_above n l (k + 1) (by omega)]; grind
theorem ev_at' (n : Nat) : ∀ (l : List Rat) (k : Nat), k ≤ n → (∀ i, i + k < n → coef l i = 0) → evR k l (n : Rat) = coef l (n - k)
  | [], k, _, _ => by simp [evR, coef]
  | c :: l, k, hk, h => by
    rcases Nat.lt_or_ge k n with h2 | h2
    · have hc : c = 0 := h 0 (by omega)
      have ih := ev_at' n l (k + 1) (by omega) fun i hi => h (i + 1) (by omega)
      rw [evR, ih, hc]
      have : n - k = (n - (k + 1)) + 1 := by omega
      rw [this]
      unfold coef
      simp
      exact Rat.zero_add _
    · have : k = n := by omega
      subst this
      rw [evR, Q_same, ev_above k l (k + 1) (by omega), Nat.sub_self]
      unfold coef
      simp
      grind
theorem ev_at {n : Nat} {l : List Rat} (h : ∀ i, i < n → coef l i = 0) : evR 0 l (n : Rat) = coef l n := ev_at' n l 0 (by omega) fun i hi => h i (by omega)
theorem ev_less : ∀ (a b : List Rat) (k : Nat) (x : Rat) (d : List Rat), (∀ i, coef d i = coef a i - coef b i) → evR k d x = evR k a x - evR k b x
  | [], [], k, x, d, h => by
    have : trim d = [] := trim_nil fun i => by rw [h i]; unfold coef; simp; grind
    rw [← ev_trim, this]
    simp [evR]; grind
  | a :: as, [], k, x, d, h => by
    have ih := ev_less as [] (k + 1) x (d.drop 1) fun i => by
      have := h (i + 1)
      unfold coef at *
      simpa [Nat.add_comm] using this
    have h0 := h 0
    cases d with
    | nil =>
      simp at ih
      unfold coef at h0
      simp at h0
      simp only [evR] at ih ⊢
      have : a = 0 := by grind
      rw [this]; grind
    | cons c d =>
      simp at ih
      unfold coef at h0
      simp at h0
      simp only [evR] at ih ⊢
      rw [ih, h0]; grind
  | [], b :: bs, k, x, d, h => by
    have ih := ev_less [] bs (k + 1) x (d.drop 1) fun i => by
      have := h (i + 1)
      unfold coef at *
      simpa [Nat.add_comm] using this
    have h0 := h 0
    cases d with
    | nil =>
      simp at ih
      unfold coef at h0
      simp at h0
      simp only [evR] at ih ⊢
      have : b = 0 := by grind
      rw [this]; grind
    | cons c d =>
      simp at ih
      unfold coef at h0
      simp at h0
      simp only [evR] at ih ⊢
      rw [ih, h0]; grind
  | a :: as, b :: bs, k, x, d, h => by
    have ih := ev_less as bs (k + 1) x (d.drop 1) fun i => by
      have := h (i + 1)
      unfold coef at *
      simpa [Nat.add_comm] using this
    have h0 := h 0
    cases d with
    | nil =>
      simp at ih
      unfold coef at h0
      simp at h0
      simp only [evR] at ih ⊢
      have : a = b := by grind
      rw [this]; grind
    | cons c d =>
      simp at ih
      unfold coef at h0
      simp at h0
      simp only [evR] at ih ⊢
      rw [ih, h0]; grind
end LR
namespace LR
open PySem L2 DL
theorem shift_step {t N D m : Nat} {n : Int} {l : List Rat} (R : RowN t N D l n) {k j : Nat} (hk : k + j < l.length) {acc : Rat} (ha : Sz ((t + 1) * l.length + 1 + N + m * (D + 2) + 1) (m * (D + 1) + 1) acc) (hm : m < l.length) (hD : 1 ≤ D) :
    tlb_row_shifted_1 (rowT l) (.int n) (.int (k : Int)) (fr acc) (.int ((k + j : Nat) : Int)) = pure (fr (acc + (chz n j : Rat) * coef l (k + j))) ∧ Sz ((t + 1) * l.length + 1 + N + (m + 1) * (D + 2) + 1) ((m + 1) * (D + 1) + 1) (acc + (chz n j : Rat) * coef l (k + j)) := by
  have hc : coef l (k + j) ∈ l := by
    unfold coef
    rw [List.getD_eq_getElem?_getD, List.getElem?_eq_getElem hk]
    exact List.getElem_mem hk
  obtain ⟨h1, h2⟩ := row_at_step R (k := j) (c := coef l (k + j)) (by omega) hc ha hm
  refine ⟨?_, h2⟩
  rw [← h1]
  unfold tlb_row_shifted_1 tlb_row_at_1
  have e : ((k + j : Nat) : Int) - (k : Int) = (j : Int) := by omega
  simp only [sBin_p, pySub_ii, sOp_d, e, pure_bind]
  rw [ix_frT hk]
  simp only [sOp_d, pure_bind]
theorem drop_cons_coef {l : List Rat} {k : Nat} (h : k < l.length) : l.drop k = coef l k :: l.drop (k + 1) := by
  rw [List.drop_eq_getElem_cons h]
  congr 1
  unfold coef
  rw [List.getD_eq_getElem?_getD, List.getElem?_eq_getElem h]; rfl
theorem shR_snoc (m : Int) (l : List Rat) : ∀ k : Nat, k < l.length → (shR m l).take (k + 1) = (shR m l).take k ++ [evR 0 (l.drop k) (m : Rat)] := by
  intro k hk
  have h2 : k < (shR m l).length := by rw [shR_len]; exact hk
  rw [List.take_succ_eq_append_getElem h2]
  congr 2
  have : ∀ (l : List Rat) (k : Nat) (h : k < (shR m l).length), (shR m l)[k] = evR 0 (l.drop k) (m : Rat) := by
    intro l
    induction l with
    | nil => intro k h; simp [shR] at h
    | cons c l ih =>
      intro k h
      cases k with
      | zero => rfl
      | succ k => exact ih k (by simpa [shR] using h)
  exact this l k h2
theorem t_row_shifted_eq {t N D : Nat} {n : Int} {l : List Rat} (R : RowN t N D l n) (hD : 1 ≤ D) : t_row_shifted (rowT l) (.int n) = pure (rowT (trim (shR n l))) := by
  have inner : ∀ (k : Nat), k ≤ l.length → ∀ (c j : Nat) (acc : Rat), k + j + c = l.length → Sz ((t + 1) * l.length + 1 + N + j * (D + 2) + 1) (j * (D + 1) + 1) acc →
      foldS (fun v (i : Nat) => tlb_row_shifted_1 (rowT l) (.int n) (.int (k : Int)) v (.int (i : Int))) (List.range' (k + j) c) (fr acc) = pure (fr (acc + evR j (l.drop (k + j)) (n : Rat))) := by
    intro k hk c
    induction c with
    | zero =>
      intro j acc e _
      rw [List.drop_eq_nil_of_le (by omega)]
      simp [evR]; grind
    | succ c ih =>
      intro j acc e ha
      obtain ⟨h1, h2⟩ := shift_step R (k := k) (j := j) (by omega) (m := j) ha (by omega) hD
      rw [List.range'_succ, foldS_cons, h1, pure_bind]
      have := ih (j + 1) _ (by omega) h2
      rw [show k + j + 1 = k + (j + 1) by omega, this, drop_cons_coef (show k + j < l.length by omega), evR, chz_eq, show k + j + 1 = k + (j + 1) by omega]
      congr 2
      grind
  have lap : ∀ k : Nat, k < l.length → tlb_row_shifted_2 (rowT l) (.int n) (rowL ((shR n l).take k)) (.int (k : Int)) = pure (rowL ((shR n l).take (k + 1))) := fun k hk => by
    have hr : rngTo (k : Int) (l.length : Int) = some ((List.range' k (l.length - k)).map fun i : Nat => PyData.int (i : Int)) := by
      have hb := R.l1
      rw [rng_ir ⟨by omega, by omega⟩]
      congr 1
      unfold ir
      rw [show ((l.length : Int) - (k : Int)).toNat = l.length - k by omega, List.range_eq_range', List.map_map]
      have : ∀ (c j : Nat), List.map (PyData.int ∘ fun i : Nat => (k : Int) + (i : Int)) (List.range' j c) = List.map (fun i : Nat => PyData.int (i : Int)) (List.range' (k + j) c) := by
        intro c
        induction c with
        | zero => intro j; rfl
        | succ c ih =>
          intro j
          rw [List.range'_succ, List.range'_succ, List.map_cons, List.map_cons, ih (j + 1)]
          congr 1
      have h0 := this (l.length - k) 0
      exact h0
    have h0 := inner k (by omega) (l.length - k) 0 0 (by omega) (Sz.zero.up (Nat.le_refl _) (by omega))
    rw [Nat.add_zero, show (0 : Rat) + evR 0 (l.drop k) (n : Rat) = evR 0 (l.drop k) (n : Rat) by grind] at h0
    have hz : ((shR n l).take k).length ≤ 1000 := by rw [List.length_take]; have := R.l1; omega
    unfold tlb_row_shifted_2
    simp only [pure_bind, sNil_p, sCons_p, sCallB_p, len_t, List.length_map, sOp_d, sRange2_p, hr, opt_some, foldS_map, un1_p, fr_zero, h0]
    rw [appS_eq (by rw [List.length_map]; omega), pure_bind, shR_snoc n l k hk]
    simp [rowL]
  have main : ∀ (c j : Nat), j + c = l.length → foldS (fun v (i : Nat) => tlb_row_shifted_2 (rowT l) (.int n) v (.int (i : Int))) (List.range' j c) (rowL ((shR n l).take j)) = pure (rowL (shR n l)) := by
    intro c
    induction c with
    | zero => intro j e; rw [List.take_of_length_le (by rw [shR_len]; omega)]; rfl
    | succ c ih =>
      intro j e
      rw [List.range'_succ, foldS_cons, lap j (by omega), pure_bind]
      exact ih (j + 1) (by omega)
  have h0 := main l.length 0 (by omega)
  rw [← List.range_eq_range', List.take_zero] at h0
  have h1 := R.l1
  unfold t_row_shifted
  simp only [sNil_p, sLst_p, sSz_nil, pure_bind, sCons_p, sCallB_p, len_t, List.length_map, sOp_d, sRange1_p, rng0 (show l.length ≤ 16777216 by omega), opt_some, ints0, foldS_map, un1_p]
  have h0' : foldS (fun v (i : Nat) => tlb_row_shifted_2 (rowT l) (.int n) v (.int (i : Int))) (List.range l.length) (.list []) = _ := h0
  rw [h0', pure_bind, t_row_of_eq (by rw [shR_len]; omega)]
theorem SzA_sh {t N D : Nat} {n : Int} {l : List Rat} (R : RowN t N D l n) (hD : 1 ≤ D) : SzA ((t + 1) * l.length + 1 + N + l.length * (D + 2) + 1) (l.length * (D + 1) + 1) (shR n l) := by
  have core : ∀ (r : List Rat) (k j : Nat) (acc : Rat), (∀ c ∈ r, c ∈ l) → j + r.length ≤ l.length → Sz ((t + 1) * l.length + 1 + N + j * (D + 2) + 1) (j * (D + 1) + 1) acc → Sz ((t + 1) * l.length + 1 + N + l.length * (D + 2) + 1) (l.length * (D + 1) + 1) (acc + evR j r (n : Rat)) := by
    intro r
    induction r with
    | nil =>
      intro k j acc _ hj ha
      have e1 : j * (D + 2) ≤ l.length * (D + 2) := Nat.mul_le_mul_right _ (by simp at hj; omega)
      have e2 : j * (D + 1) ≤ l.length * (D + 1) := Nat.mul_le_mul_right _ (by simp at hj; omega)
      simp only [evR]
      rw [show acc + 0 = acc by grind]
      exact ha.up (by omega) (by omega)
    | cons c r ih =>
      intro k j acc hr hj ha
      rw [List.length_cons] at hj
      obtain ⟨_, h2⟩ := row_at_step R (k := j) (c := c) (by omega) (hr c (by simp)) (m := j) ha (by omega)
      have := ih k (j + 1) _ (fun d hd => hr d (List.mem_cons_of_mem _ hd)) (by omega) h2
      rw [evR]
      rw [chz_eq] at this
      rw [show acc + (Qr j (n : Rat) * c + evR (j + 1) r (n : Rat)) = acc + Qr j (n : Rat) * c + evR (j + 1) r (n : Rat) by grind]
      exact this
  intro c hc
  have : ∃ k, k ≤ l.length ∧ c = evR 0 (l.drop k) (n : Rat) := by
    have : ∀ (l : List Rat), c ∈ shR n l → ∃ k, k ≤ l.length ∧ c = evR 0 (l.drop k) (n : Rat) := by
      intro l
      induction l with
      | nil => intro h; cases h
      | cons d l ih =>
        intro h
        rw [shR] at h
        rcases List.mem_cons.mp h with e | h
        · exact ⟨0, by omega, e⟩
        · obtain ⟨k, h1, h2⟩ := ih h
          exact ⟨k + 1, by simpa using h1, h2⟩
    exact this l hc
  obtain ⟨k, hk, rfl⟩ := this
  have := core (l.drop k) 0 0 0 (fun c hc => List.mem_of_mem_drop hc) (by rw [List.length_drop]; omega) (Sz.zero.up (Nat.le_refl _) (by omega))
  rw [show (0 : Rat) + evR 0 (l.drop k) (n : Rat) = evR 0 (l.drop k) (n : Rat) by grind] at this
  exact this
theorem sz_ev {t N D : Nat} {n : Int} {l : List Rat} (R : RowN t N D l n) (hD : 1 ≤ D) : Sz ((t + 1) * l.length + 1 + N + l.length * (D + 2) + 1) (l.length * (D + 1) + 1) (evR 0 l (n : Rat)) := by
  cases l with
  | nil => exact (Sz.zero (m := 0)).up (by omega) (by omega)
  | cons c l => exact SzA_sh R hD _ (by rw [shR]; simp)
/-! shifted by one -/
theorem onR_map : ∀ l : List Rat, onR l = (l.zipIdx).map fun p => if p.2 + 1 < l.length then p.1 + coef l (p.2 + 1) else p.1 := by
  intro l
  refine List.ext_getElem (by rw [onR_len]; simp) fun k h1 h2 => ?_
  have hk : k < l.length := by rw [onR_len] at h1; exact h1
  have e1 : (onR l)[k] = coef (onR l) k := by unfold coef; rw [List.getD_eq_getElem?_getD, List.getElem?_eq_getElem h1]; rfl
  have e2 : l[k] = coef l k := by unfold coef; rw [List.getD_eq_getElem?_getD, List.getElem?_eq_getElem hk]; rfl
  rw [e1, coef_on]
  simp only [List.getElem_map, List.getElem_zipIdx, Nat.zero_add]
  rw [e2]
  split
  · rfl
  · have : coef l (k + 1) = 0 := by unfold coef; rw [List.getD_eq_getElem?_getD, List.getElem?_eq_none (by omega)]; rfl
    rw [this]; grind
theorem t_shifted_once_eq {l : List Rat} (h : SzA 400000 4000 l) (hl : l.length ≤ 10000) : t_shifted_once (rowT l) = pure (rowT (trim (onR l))) := by
  have hm : mapG (fun p : Rat × Nat => sIf (sBool (sOp (pyLt (.int ((p.2 : Int) + 1)) (.int (l.length : Int))))) (sOp (pyIx (rowT l) (.int ((p.2 : Int) + 1))) >>= fun y3 => t_fraction_sum (fr p.1) y3) (pure (fr p.1))) l.zipIdx = pure ((onR l).map fr) := by
    rw [onR_map]
    exact mapG_enc fr _ fun p hp => by
      have hm : p.1 ∈ l := List.mem_of_getElem? (List.mem_zipIdx_iff_getElem?.mp (by obtain ⟨a, b⟩ := p; exact hp))
      have e : decide ((p.2 : Int) + 1 < (l.length : Int)) = decide (p.2 + 1 < l.length) := decide_eq_decide.mpr (by omega)
      simp only [pyLt_ii, sOp_d, sBool_p, sIf_p, e]
      by_cases hk : p.2 + 1 < l.length
      · rw [if_pos (by simpa using hk), if_pos hk, show (p.2 : Int) + 1 = ((p.2 + 1 : Nat) : Int) by omega, ix_frT hk, sOp_d, pure_bind, t_fraction_sum_eq (h _ hm) (h.coef (by omega) _)]
      · rw [if_neg (by simpa using hk), if_neg hk]
  unfold t_shifted_once
  simp only [pure_bind, sEnum_t, numbered_fr, sCompA_p, mapG_map, un2_p, opt_some, sBin_p, pyAdd_ii, sOp_d, sNil_p, sCons_p, sCallB_p, len_t, List.length_map, hm]
  rw [sSz_eq _ (by rw [List.length_map, onR_len]; omega), pure_bind, t_row_of_eq (by rw [onR_len]; omega)]
/-! signs -/
def sgn (i : Int) : Int := if 0 < i then 1 else if i < 0 then -1 else 0
theorem b2i (b : Bool) : pyInt [.bool b] = some (.d (.int (if b then 1 else 0))) := rfl
theorem t_sign_at_eq (l : List Rat) : t_sign_at (rowT l) = pure (.int (sgn (coef l 0).num)) := by
  have key : ∀ i : Int, (if decide (0 < i) = true then (1 : Int) else 0) - (if decide (i < 0) = true then 1 else 0) = sgn i := fun i => by
    unfold sgn
    by_cases h1 : 0 < i
    · have h2 : ¬ i < 0 := by omega
      simp [h1, h2]
    · by_cases h2 : i < 0 <;> simp [h1, h2]
  unfold t_sign_at
  have hn := ne_rowT l []
  simp only [sNil_p, sTup_p, sSz_nil, sBin_p]
  have hn' : pyNe (.tuple (l.map fr)) (.tuple []) = some (.d (.bool !decide (l = []))) := hn
  rw [hn', sOp_d, sBool_p, sIf_p]
  cases l with
  | nil =>
    simp only [decide_true, Bool.not_true, Bool.false_eq_true, if_false, pure_bind, sBin_p, pyGt_ii, pyLt_ii, sOp_d, sCons_p, sCallB_p, b2i, pySub_ii, key]
    rfl
  | cons c l =>
    have h0 := ix_frT (l := c :: l) (k := 0) (by simp)
    have h0' : pyIx (.tuple ((c :: l).map fr)) (.int 0) = some (.d (fr (coef (c :: l) 0))) := h0
    simp only [decide_false, Bool.not_false, if_true, h0', sOp_d, sBin_p, fr, ix0, pure_bind, pyGt_ii, pyLt_ii, sCons_p, sCallB_p, b2i, pySub_ii, key, show (decide (c :: l = [])) = false by simp]
def settled (l : List Rat) : Bool := decide (l = []) || (decide (0 < (coef l 0).num) && l.all fun c => decide (0 ≤ c.num)) || (decide ((coef l 0).num < 0) && l.all fun c => decide (c.num ≤ 0))
theorem minI_ge {ns : List Int} {m : Int} (h : minI ns = some m) : decide (0 ≤ m) = ns.all fun c => decide (0 ≤ c) := by
  cases ns with
  | nil => cases h
  | cons n ns =>
    cases h
    have : ∀ (ns : List Int) (n : Int), decide (0 ≤ ns.foldl min n) = (decide (0 ≤ n) && ns.all fun c => decide (0 ≤ c)) := by
      intro ns
      induction ns with
      | nil => intro n; rw [List.foldl_nil, List.all_nil, Bool.and_true]
      | cons a ns ih =>
        intro n
        rw [List.foldl_cons, ih, List.all_cons, ← Bool.and_assoc]
        congr 1
        by_cases h1 : 0 ≤ n <;> by_cases h2 : 0 ≤ a <;> simp [h1, h2] <;> omega
    exact this ns n
theorem maxI_le {ns : List Int} {m : Int} (h : maxI ns = some m) : decide (m ≤ 0) = ns.all fun c => decide (c ≤ 0) := by
  cases ns with
  | nil => cases h
  | cons n ns =>
    cases h
    have : ∀ (ns : List Int) (n : Int), decide (ns.foldl max n ≤ 0) = (decide (n ≤ 0) && ns.all fun c => decide (c ≤ 0)) := by
      intro ns
      induction ns with
      | nil => intro n; rw [List.foldl_nil, List.all_nil, Bool.and_true]
      | cons a ns ih =>
        intro n
        rw [List.foldl_cons, ih, List.all_cons, ← Bool.and_assoc]
        congr 1
        by_cases h1 : n ≤ 0 <;> by_cases h2 : a ≤ 0 <;> simp [h1, h2] <;> omega
    exact this ns n
theorem min_l {ns : List Int} {m : Int} (h : minI ns = some m) : pyMin [.list (ns.map .int)] = some (.d (.int m)) := by
  simp [pyMin, h, oneI]
theorem max_l {ns : List Int} {m : Int} (h : maxI ns = some m) : pyMax [.list (ns.map .int)] = some (.d (.int m)) := by
  simp [pyMax, h, oneI]
theorem t_is_settled_eq (l : List Rat) (hl : l.length ≤ 10000) : t_is_settled (rowT l) = pure (.bool (settled l)) := by
  have hm : mapG (fun c : Rat => sOp (pyIx (fr c) (.int 0))) l = pure ((l.map Rat.num).map PyData.int) := mapG_enc PyData.int _ fun c _ => rfl
  unfold t_is_settled
  simp only [sItems_t, sCompA_p, mapG_map, un1_p, opt_some, pure_bind, sBin_p, hm]
  rw [sSz_eq _ (by simpa using (show l.length ≤ 16777216 by omega)), pure_bind]
  cases l with
  | nil => rfl
  | cons c l =>
    have hmin : ∃ m, minI ((c :: l).map Rat.num) = some m := ⟨_, rfl⟩
    have hmax : ∃ m, maxI ((c :: l).map Rat.num) = some m := ⟨_, rfl⟩
    obtain ⟨m, hm1⟩ := hmin
    obtain ⟨M, hm2⟩ := hmax
    have g1 := minI_ge hm1
    have g2 := maxI_le hm2
    have hi : pyIx (.list (((c :: l).map Rat.num).map PyData.int)) (.int 0) = some (.d (.int c.num)) := by
      rw [ix_l ⟨by omega, by simp⟩]; rfl
    have he : pyEq (.list (((c :: l).map Rat.num).map PyData.int)) (.list []) = some (.d (.bool false)) := by rw [pyEq_l0]; rfl
    have h0 : coef (c :: l) 0 = c := rfl
    unfold settled
    simp only [sNil_p, sLst_p, sSz_nil, sBin_p, he, sOp_d, sOrV_p, Bool.false_eq_true, if_false, hi, pyGt_ii, sAndV_p, sCons_p, sCallB_p, min_l hm1, max_l hm2, pyGe_ii, pyLe_ii, pyLt_ii, g1, g2, h0, List.all_map, show (decide (c :: l = [])) = false by simp, Bool.false_or, Function.comp_def]
    generalize ((c :: l).all fun x => decide (0 ≤ x.num)) = A
    generalize ((c :: l).all fun x => decide (x.num ≤ 0)) = B
    cases decide (0 < c.num) <;> cases A <;> cases decide (c.num < 0) <;> cases B <;> rfl
end LR
namespace LR
open PySem L2 DL
/-! the laws' own ways -/
theorem mod_z {i j : Int} (h : 0 < j) : pyMod (.int i) (.int j) = some (.d (.int (i % j))) := mod_ints h
theorem euclid : ∀ (f k a b : Nat), b < 2 ^ k → 2 * k + 1 ≤ f → whileS twc__law_low_1 twb__law_low_2 f (.int (a : Int), .int (b : Int)) = pure (.int ((Nat.gcd a b : Nat) : Int), .int 0)
  | 0, k, a, b, _, hf => by omega
  | f + 1, k, a, b, hb, hf => by
    unfold whileS
    have hc : twc__law_low_1 (.int (a : Int), .int (b : Int)) = pure (decide (0 < (b : Int))) := by
      unfold twc__law_low_1
      simp
    rw [hc, pure_bind]
    by_cases h0 : b = 0
    · subst h0
      simp
    · have hp : (0 : Int) < (b : Int) := by omega
      rw [decide_eq_true hp, if_pos rfl]
      have step : ∀ (a b : Nat), b ≠ 0 → twb__law_low_2 (.int (a : Int), .int (b : Int)) = pure (.int (b : Int), .int ((a % b : Nat) : Int)) := fun a b h => by
        unfold twb__law_low_2
        simp only [sNil_p, sCons_p, sCallB_p, int_i, sOp_d, sBin_p, mod_z (show (0 : Int) < (b : Int) by omega), two_p, opt_some, pure_bind]
        rw [Int.natCast_emod]
      rw [step a b h0, pure_bind]
      cases k with
      | zero => have : b < 1 := hb; omega
      | succ k =>
        cases f with
        | zero => omega
        | succ f =>
          unfold whileS
          have hc2 : twc__law_low_1 (.int (b : Int), .int ((a % b : Nat) : Int)) = pure (decide (0 < ((a % b : Nat) : Int))) := by
            unfold twc__law_low_1
            simp
          rw [hc2, pure_bind]
          have eg : Nat.gcd a b = Nat.gcd b (a % b) := by rw [Nat.gcd_comm, Nat.gcd_rec, Nat.gcd_comm]
          by_cases h1 : a % b = 0
          · rw [h1] at eg ⊢
            rw [eg]
            simp
          · rw [decide_eq_true (show (0 : Int) < ((a % b : Nat) : Int) by omega), if_pos rfl, step b (a % b) h1, pure_bind]
            have hlt : a % b < b := Nat.mod_lt _ (by omega)
            have hhalf : b % (a % b) < 2 ^ k := by
              have h2 : b % (a % b) < a % b := Nat.mod_lt _ (by omega)
              have h3 : b % (a % b) + (a % b) ≤ b := by
                have := Nat.div_add_mod b (a % b)
                have h4 : 1 ≤ b / (a % b) := Nat.div_pos (by omega) (by omega)
                have h5 : (a % b) * 1 ≤ (a % b) * (b / (a % b)) := Nat.mul_le_mul_left _ h4
                omega
              rw [Nat.pow_succ] at hb
              omega
            rw [euclid f k (a % b) (b % (a % b)) hhalf (by omega), eg]
            congr 3
            rw [Nat.gcd_comm (a % b) (b % (a % b)), ← Nat.gcd_rec, Nat.gcd_comm]
theorem abs_nat (p : Int) : pyAbs [.int p] = some (.d (.int ((p.natAbs : Nat) : Int))) := by
  show some (oneI _) = _
  congr 2
  split <;> omega
theorem t__law_low_eq {p q : Int} (hq : 0 < q) (hz : Zk 8999 q) : t__law_low (.int p) (.int q) = pure (fr (Rat.divInt p q)) := by
  obtain ⟨b, rfl⟩ := Int.eq_ofNat_of_zero_le (show 0 ≤ q by omega)
  have hb : b < 2 ^ 8999 := by have : ((b : Int)).natAbs < 2 ^ 8999 := hz; rwa [Int.natAbs_natCast] at this
  have hw := euclid fuel__law_low 8999 p.natAbs b hb (by unfold fuel__law_low; omega)
  have hg0 : 0 < Nat.gcd p.natAbs b := Nat.gcd_pos_of_pos_right _ (by omega)
  have hgz : Zk 8999 ((Nat.gcd p.natAbs b : Nat) : Int) := by
    have h1 : Nat.gcd p.natAbs b ≤ b := Nat.gcd_le_right _ (by omega)
    show ((Nat.gcd p.natAbs b : Nat) : Int).natAbs < 2 ^ 8999
    rw [Int.natAbs_natCast]
    exact Nat.lt_of_le_of_lt h1 hb
  have fd := fun i => fdiv_z (i := i) hgz (by omega) (by omega)
  have eg : (((b : Int).gcd p : Nat) : Int) = ((Nat.gcd p.natAbs b : Nat) : Int) := by
    show ((Nat.gcd ((b : Int)).natAbs p.natAbs : Nat) : Int) = _
    rw [Int.natAbs_natCast, Nat.gcd_comm]
  unfold t__law_low
  simp only [sNil_p, sCons_p, sCallB_p, abs_nat, sOp_d, two_p, opt_some, pure_bind, hw, sBin_p, fd, sTup_p, sSz_2]
  unfold fr
  rw [Rat.num_divInt, Rat.den_divInt, if_neg (by omega), Int.sign_eq_one_of_pos hq, Int.one_mul, eg, Int.natCast_ediv, eg, Int.natAbs_natCast]
theorem t__law_plus_eq {a b : Rat} {c : Int} {k : Nat} (ha : Sz 300000 4000 a) (hb : Sz 300000 4000 b) (hc : Zk k c) (hk : k ≤ 100000) : t__law_plus (fr a) (fr b) (.int c) = pure (fr (a + (c : Rat) * b)) := by
  have h1 : Zk (k + 300000) (c * b.num) := hc.mul hb.nz
  have e : Rat.divInt (a.num * b.den + c * b.num * a.den) ((a.den : Int) * b.den) = a + (c : Rat) * b := by
    have h := Rat.divInt_add_divInt a.num (c * b.num) (den_ne a) (den_ne b)
    rw [Rat.num_divInt_den] at h
    rw [← h]
    congr 1
    have h2 := Rat.divInt_mul_divInt c b.num (d₁ := 1) (d₂ := (b.den : Int))
    rw [Rat.num_divInt_den, Int.one_mul] at h2
    have h3 := Rat.num_divInt_den (c : Rat)
    rw [Rat.num_intCast, Rat.den_intCast] at h3
    rw [← h2, show Rat.divInt c 1 = (c : Rat) from h3]
  unfold t__law_plus fr
  simp only [sBin_p, ix0, ix1, sOp_d, mul_z ha.nz hb.dz (by omega), mul_z hc hb.nz (by omega), mul_z h1 ha.dz (by omega), mul_z ha.dz hb.dz (by omega), pyAdd_ii, pure_bind]
  have hpos : (0 : Int) < (a.den : Int) * (b.den : Int) := Int.mul_pos (by have := a.den_pos; omega) (by have := b.den_pos; omega)
  rw [t__law_low_eq hpos ((ha.dz.mul hb.dz).up (by omega)), e]
  rfl
theorem pop_last {l : List Rat} {a : Rat} : popS (rowL (l ++ [a])) = pure (fr a, rowL l) := by
  show (match ((l ++ [a]).map fr)[((l ++ [a]).map fr).length - 1]? with
    | some d => (pure (d, .list ((l ++ [a]).map fr).dropLast) : S (PyData × PyData))
    | none => S.fail) = _
  rw [List.map_append, List.length_append]
  simp
theorem ix_last {l : List Rat} {a : Rat} : pyIx (rowL (l ++ [a])) (.int (-1)) = some (.d (fr a)) := by
  have : atI ((l ++ [a]).map fr) (-1) = some (fr a) := by
    unfold atI ixN
    rw [List.map_append, List.length_append]
    simp
    rw [if_pos (by omega)]
    simp
    have : ((-1 : Int) + ((l.length : Int) + 1)).toNat = l.length := by omega
    rw [this]
    simp
  simp only [pyIx, this, Option.map_some]
theorem trim_while : ∀ (f n : Nat) (l : List Rat), l.length = n → n < f → whileS twc__law_trimmed_1 twb__law_trimmed_2 f (rowL l) = pure (rowL (trim l))
  | 0, n, l, _, h => by omega
  | f + 1, n, l, hn, hf => by
    unfold whileS
    rcases List.eq_nil_or_concat l with rfl | ⟨r, a, rfl⟩
    · have hc : twc__law_trimmed_1 (rowL []) = pure false := rfl
      rw [hc, pure_bind]
      rfl
    · rw [List.concat_eq_append] at hn ⊢
      have hn' : r.length + 1 = n := by simpa using hn
      have hne : pyNe (rowL (r ++ [a])) (.list []) = some (.d (.bool true)) := by
        rw [pyNe_l0]; simp
      have hc : twc__law_trimmed_1 (rowL (r ++ [a])) = pure (decide (a = 0)) := by
        unfold twc__law_trimmed_1
        simp only [sNil_p, sLst_p, sSz_nil, sBin_p, hne, sOp_d, sBool_p, sAndT_p, if_true, sUn_p, pyNeg_i, ix_last, sCons_p, sTup_p, sSz_2, fr_zero, eq_fr]
      rw [hc, pure_bind]
      by_cases h0 : a = 0
      · subst h0
        rw [decide_eq_true rfl, if_pos rfl]
        have hb : twb__law_trimmed_2 (rowL (r ++ [0])) = pure (rowL r) := by
          unfold twb__law_trimmed_2
          rw [pop_last]
          simp
        rw [hb, pure_bind, trim_while f (n - 1) r (by omega) (by omega), trim_snoc_zero]
      · rw [decide_eq_false h0, if_neg Bool.false_ne_true, trim_snoc _ _ h0]
theorem t__law_trimmed_eq {l : List Rat} (x : PyData) (hx : x = rowT l ∨ x = rowL l) (h : l.length ≤ 100000) : t__law_trimmed x = pure (rowT (trim l)) := by
  have hw := trim_while fuel__law_trimmed l.length l rfl (by unfold fuel__law_trimmed; omega)
  unfold t__law_trimmed
  rcases hx with rfl | rfl
  · simp only [sNil_p, sCons_p, sCallB_p, listOf_t, sOp_fr, pure_bind]
    have hw' : whileS twc__law_trimmed_1 twb__law_trimmed_2 fuel__law_trimmed (.list (l.map fr)) = _ := hw
    rw [hw']
    simp
  · simp only [sNil_p, sCons_p, sCallB_p, listOf_l, sOp_fr, pure_bind]
    have hw' : whileS twc__law_trimmed_1 twb__law_trimmed_2 fuel__law_trimmed (.list (l.map fr)) = _ := hw
    rw [hw']
    simp
theorem t__law_less_eq {a b : List Rat} (x y : PyData) (hx : x = rowT a ∨ x = rowL a) (hy : y = rowT b ∨ y = rowL b) (ha : SzA 300000 4000 a) (hb : SzA 300000 4000 b) (la : a.length ≤ 10000) (lb : b.length ≤ 10000) : t__law_less x y = pure (rowT (lessR a b)) := by
  have lenx : DL.pyLen [x] = some (.d (.int (a.length : Nat))) := by rcases hx with rfl | rfl <;> simp
  have leny : DL.pyLen [y] = some (.d (.int (b.length : Nat))) := by rcases hy with rfl | rfl <;> simp
  have ixx : ∀ k : Nat, k < a.length → pyIx x (.int (k : Int)) = some (.d (fr (coef a k))) := fun k h => by rcases hx with rfl | rfl; exact ix_frT h; exact ix_frL h
  have ixy : ∀ k : Nat, k < b.length → pyIx y (.int (k : Int)) = some (.d (fr (coef b k))) := fun k h => by rcases hy with rfl | rfl; exact ix_frT h; exact ix_frL h
  have zl := zipR_len (· - ·) a b
  have lap : ∀ k : Nat, k < max a.length b.length → tlb__law_less_1 x y (rowL ((zipR (· - ·) a b).take k)) (.int (k : Int)) = pure (rowL ((zipR (· - ·) a b).take (k + 1))) := fun k hk => by
    have e1 : sIf (sBool (sOp (pyLt (.int (k : Int)) (.int (a.length : Int))))) (sOp (pyIx x (.int (k : Int)))) (pure (fr 0)) = pure (fr (coef a k)) := by
      simp only [pyLt_ii, sOp_d, sBool_p, sIf_p]
      by_cases h : k < a.length
      · rw [if_pos (by simpa using h), ixx k h, sOp_d]
      · rw [if_neg (by simpa using h)]
        have : coef a k = 0 := by unfold coef; rw [List.getD_eq_getElem?_getD, List.getElem?_eq_none (by omega)]; rfl
        rw [this]
    have e2 : sIf (sBool (sOp (pyLt (.int (k : Int)) (.int (b.length : Int))))) (sOp (pyIx y (.int (k : Int)))) (pure (fr 0)) = pure (fr (coef b k)) := by
      simp only [pyLt_ii, sOp_d, sBool_p, sIf_p]
      by_cases h : k < b.length
      · rw [if_pos (by simpa using h), ixy k h, sOp_d]
      · rw [if_neg (by simpa using h)]
        have : coef b k = 0 := by unfold coef; rw [List.getD_eq_getElem?_getD, List.getElem?_eq_none (by omega)]; rfl
        rw [this]
    have e3 : coef a k + ((-1 : Int) : Rat) * coef b k = coef (zipR (· - ·) a b) k := by
      rw [coef_zipR (by grind)]
      have : ((-1 : Int) : Rat) = -1 := rfl
      rw [this]; grind
    unfold tlb__law_less_1
    simp only [sNil_p, sCons_p, sCallB_p, lenx, leny, sOp_d, sBin_p, sTup_p, sSz_2, fr_zero, e1, e2, pure_bind, sUn_p, pyNeg_i]
    rw [t__law_plus_eq (k := 1) (ha.coef (by omega) k) (hb.coef (by omega) k) (by show (1 : Nat) < 2 ^ 1; decide) (by omega), pure_bind, appS_eq (by rw [List.length_map, List.length_take]; omega), pure_bind, e3]
    have : (zipR (· - ·) a b).take (k + 1) = (zipR (· - ·) a b).take k ++ [coef (zipR (· - ·) a b) k] := by
      rw [List.take_succ_eq_append_getElem (by omega)]
      congr 2
      unfold coef
      rw [List.getD_eq_getElem?_getD, List.getElem?_eq_getElem (by omega)]; rfl
    rw [this]
    simp [rowL]
  have main : ∀ (c j : Nat), j + c = max a.length b.length → foldS (fun v (i : Nat) => tlb__law_less_1 x y v (.int (i : Int))) (List.range' j c) (rowL ((zipR (· - ·) a b).take j)) = pure (rowL (zipR (· - ·) a b)) := by
    intro c
    induction c with
    | zero => intro j e; rw [List.take_of_length_le (by omega)]; rfl
    | succ c ih =>
      intro j e
      rw [List.range'_succ, foldS_cons, lap j (by omega), pure_bind]
      exact ih (j + 1) (by omega)
  have h0 := main (max a.length b.length) 0 (by omega)
  rw [← List.range_eq_range', List.take_zero] at h0
  have h0' : foldS (fun v (i : Nat) => tlb__law_less_1 x y v (.int (i : Int))) (List.range (max a.length b.length)) (.list []) = _ := h0
  unfold t__law_less
  simp only [sNil_p, sLst_p, sSz_nil, pure_bind, sCons_p, sCallB_p, lenx, leny, sOp_d, max2_i, sRange1_p, rng0 (show max a.length b.length ≤ 16777216 by omega), opt_some, ints0, foldS_map, un1_p, h0']
  exact t__law_trimmed_eq _ (.inr rfl) (by omega)
theorem t__law_once_eq {l : List Rat} (h : SzA 300000 4000 l) (hl : l.length ≤ 10000) : t__law_once (rowT l) = pure (rowT (trim (onR l))) := by
  have hm : mapG (fun p : Rat × Nat => sIf (sBool (sOp (pyLt (.int ((p.2 : Int) + 1)) (.int (l.length : Int))))) (sOp (pyIx (rowT l) (.int ((p.2 : Int) + 1))) >>= fun y3 => t__law_plus (fr p.1) y3 (.int 1)) (pure (fr p.1))) l.zipIdx = pure ((onR l).map fr) := by
    rw [onR_map]
    exact mapG_enc fr _ fun p hp => by
      have hm : p.1 ∈ l := List.mem_of_getElem? (List.mem_zipIdx_iff_getElem?.mp (by obtain ⟨a, b⟩ := p; exact hp))
      have e : decide ((p.2 : Int) + 1 < (l.length : Int)) = decide (p.2 + 1 < l.length) := decide_eq_decide.mpr (by omega)
      simp only [pyLt_ii, sOp_d, sBool_p, sIf_p, e]
      by_cases hk : p.2 + 1 < l.length
      · rw [if_pos (by simpa using hk), if_pos hk, show (p.2 : Int) + 1 = ((p.2 + 1 : Nat) : Int) by omega, ix_frT hk, sOp_d, pure_bind, t__law_plus_eq (k := 1) (h _ hm) (h.coef (by omega) _) (by show (1 : Nat) < 2 ^ 1; decide) (by omega)]
        congr 2
        have : ((1 : Int) : Rat) = 1 := rfl
        rw [this]; grind
      · rw [if_neg (by simpa using hk), if_neg hk]
  unfold t__law_once
  simp only [pure_bind, sEnum_t, numbered_fr, sCompA_p, mapG_map, un2_p, opt_some, sBin_p, pyAdd_ii, sOp_d, sNil_p, sCons_p, sCallB_p, len_t, List.length_map, hm]
  rw [sSz_eq _ (by rw [List.length_map, onR_len]; omega), pure_bind, t__law_trimmed_eq _ (.inr rfl) (by rw [onR_len]; omega)]
theorem t__law_at_eq {t N D : Nat} {n : Int} {l : List Rat} (R : RowN t N D l n) (hN : N ≤ 90000) : t__law_at (rowT l) (.int n) = pure (fr (evR 0 l (n : Rat))) := by
  have hb1 := R.b1
  have hb2 := R.b2
  have main : ∀ (r : List Rat) (k : Nat) (acc : Rat), (∀ c ∈ r, c ∈ l) → k + r.length = l.length → Sz ((t + 1) * l.length + 1 + N + k * (D + 2) + 1) (k * (D + 1) + 1) acc →
      ∃ z, foldS (fun v (p : Rat × Nat) => tlb__law_at_1 (.int n) v (.int (p.2 : Nat), fr p.1)) (r.zipIdx k) (fr acc, .int (chz n k)) = pure (fr (acc + evR k r (n : Rat)), z) := by
    intro r
    induction r with
    | nil =>
      intro k acc _ _ _
      refine ⟨.int (chz n k), ?_⟩
      simp only [List.zipIdx_nil, foldS_nil, evR]
      rw [show acc + 0 = acc by grind]
    | cons c r ih =>
      intro k acc hr hk ha
      rw [List.length_cons] at hk
      obtain ⟨_, h2⟩ := row_at_step R (k := k) (c := c) (by omega) (hr c (by simp)) (m := k) ha (by omega)
      obtain ⟨z, hz⟩ := ih (k + 1) _ (fun d hd => hr d (List.mem_cons_of_mem _ hd)) (by omega) h2
      refine ⟨z, ?_⟩
      have hzk := chz_size R.z k (by have := R.l2; omega)
      have e0 : (t + 1) * k ≤ (t + 1) * l.length := Nat.mul_le_mul_left _ (by omega)
      have e1 : (t + 1) * (l.length + 2) = (t + 1) * l.length + (t + 1) * 2 := Nat.mul_add _ _ _
      have e2 : k * (D + 2) ≤ l.length * (D + 2) := Nat.mul_le_mul_right _ (by omega)
      have e3 : k * (D + 1) ≤ l.length * (D + 1) := Nat.mul_le_mul_right _ (by omega)
      have h1 : Zk (t + 1) (n - (k : Int)) := by
        have := R.z
        have hl2 := R.l2
        unfold Zk at *
        rw [Nat.pow_succ]
        omega
      have hb : tlb__law_at_1 (.int n) (fr acc, .int (chz n k)) (.int (k : Int), fr c) = pure (fr (acc + (chz n k : Rat) * c), .int (chz n (k + 1))) := by
        unfold tlb__law_at_1
        simp only [pure_bind, t__law_plus_eq (ha.up (show _ ≤ 300000 by omega) (show _ ≤ 4000 by omega)) ((R.sz c (hr c (by simp))).up (show N ≤ 300000 by omega) (show D ≤ 4000 by omega)) hzk (by omega), sBin_p, pySub_ii, sOp_d, mul_z hzk h1 (by omega), pyAdd_ii]
        rw [fdiv_z (k := 100) (by unfold Zk; exact Nat.lt_of_le_of_lt (show _ ≤ 1001 by have := R.l1; omega) (by decide)) (by omega) (by omega)]
        simp only [sOp_d, pure_bind, chz_div]
      rw [List.zipIdx_cons, foldS_cons, hb, pure_bind, hz, evR, chz_eq]
      congr 3
      grind
  obtain ⟨z, h0⟩ := main l 0 0 (fun _ h => h) (by omega) (Sz.zero.up (Nat.le_refl _) (by omega))
  rw [show (0 : Rat) + evR 0 l (n : Rat) = evR 0 l (n : Rat) by grind, chz_zero] at h0
  unfold t__law_at
  simp only [sNil_p, sCons_p, sTup_p, sSz_2, un2_p, opt_some, pure_bind, sEnum_t, numbered_fr, foldS_map, fr_zero, h0]
end LR
namespace LR
open PySem L2 DL
theorem num_pos_iff (c : Rat) : 0 < c.num ↔ 0 < c := by
  have h1 := @Rat.num_nonneg c
  have h2 := @Rat.num_eq_zero c
  constructor
  · intro h
    have a : 0 ≤ c := h1.mp (by omega)
    have b : c ≠ 0 := fun z => by have := h2.mpr z; omega
    grind
  · intro h
    have a : 0 ≤ c.num := h1.mpr (by grind)
    have b : c.num ≠ 0 := fun z => by have := h2.mp z; grind
    omega
theorem num_le_iff (c : Rat) : c.num ≤ 0 ↔ c ≤ 0 := by
  have h1 := @Rat.num_nonneg (-c)
  rw [Rat.neg_num] at h1
  constructor
  · intro h
    have := h1.mp (by omega)
    grind
  · intro h
    have := h1.mpr (by grind)
    omega
theorem num_neg_iff (c : Rat) : c.num < 0 ↔ c < 0 := by
  have h1 := @Rat.num_nonneg c
  constructor
  · intro h
    have : ¬ 0 ≤ c := fun z => by have := h1.mpr z; omega
    grind
  · intro h
    have : ¬ 0 ≤ c.num := fun z => by have := h1.mp z; grind
    omega
theorem mem_coef {l : List Rat} {c : Rat} (h : c ∈ l) : ∃ k, c = coef l k := by
  obtain ⟨k, hk, e⟩ := List.getElem_of_mem h
  exact ⟨k, by unfold coef; rw [List.getD_eq_getElem?_getD, List.getElem?_eq_getElem hk]; exact e.symm⟩
theorem coef_all {l : List Rat} {P : Rat → Prop} (h0 : P 0) (h : ∀ c ∈ l, P c) (k : Nat) : P (coef l k) := by
  unfold coef
  rw [List.getD_eq_getElem?_getD]
  cases q : l[k]? with
  | none => exact h0
  | some c => exact h c (List.mem_of_getElem? q)
theorem settled_iff (l : List Rat) : settled l = true ↔ l = [] ∨ (0 < coef l 0 ∧ ∀ k, 0 ≤ coef l k) ∨ (coef l 0 < 0 ∧ ∀ k, coef l k ≤ 0) := by
  unfold settled
  rw [Bool.or_eq_true, Bool.or_eq_true, Bool.and_eq_true, Bool.and_eq_true, decide_eq_true_eq, decide_eq_true_eq, decide_eq_true_eq, List.all_eq_true, List.all_eq_true, num_pos_iff, num_neg_iff, or_assoc]
  refine or_congr Iff.rfl (or_congr (and_congr Iff.rfl ?_) (and_congr Iff.rfl ?_))
  · constructor
    · intro h
      exact coef_all (P := fun c => 0 ≤ c) (by grind) fun c hc => Rat.num_nonneg.mp (of_decide_eq_true (h c hc))
    · intro h c hc
      obtain ⟨k, rfl⟩ := mem_coef hc
      exact decide_eq_true (Rat.num_nonneg.mpr (h k))
  · constructor
    · intro h
      exact coef_all (P := fun c => c ≤ 0) (by grind) fun c hc => (num_le_iff c).mp (of_decide_eq_true (h c hc))
    · intro h c hc
      obtain ⟨k, rfl⟩ := mem_coef hc
      exact decide_eq_true ((num_le_iff _).mpr (h k))
theorem settled_once {l : List Rat} (h : settled l = true) : settled (trim (onR l)) = true := by
  rw [settled_iff] at h ⊢
  rcases h with rfl | ⟨h0, h⟩ | ⟨h0, h⟩
  · exact .inl rfl
  · refine .inr (.inl ⟨?_, fun k => ?_⟩)
    · rw [coef_trim, coef_on]; have := h 1; grind
    · rw [coef_trim, coef_on]; have := h k; have := h (k + 1); grind
  · refine .inr (.inr ⟨?_, fun k => ?_⟩)
    · rw [coef_trim, coef_on]; have := h 1; grind
    · rw [coef_trim, coef_on]; have := h k; have := h (k + 1); grind
/-! where rows part -/
def apartL (a b : List Rat) (m : Nat) : List Nat := (List.range m).filter fun n => !decide (evR 0 a (n : Rat) = evR 0 b (n : Rat))
theorem ev_diff {a b : List Rat} {n : Nat} (h : ∀ i, i < n → coef a i = coef b i) : evR 0 a (n : Rat) - evR 0 b (n : Rat) = coef a n - coef b n := by
  have h1 := ev_less a b 0 (n : Rat) (zipR (· - ·) a b) fun i => coef_zipR (by grind) a b i
  rw [← h1, ev_at fun i hi => by rw [coef_zipR (by grind), h i hi]; grind, coef_zipR (by grind)]
theorem coef_beyond {l : List Rat} {k : Nat} (h : l.length ≤ k) : coef l k = 0 := by
  unfold coef; rw [List.getD_eq_getElem?_getD, List.getElem?_eq_none h]; rfl
theorem apart_nil {a b : List Rat} {m : Nat} (ha : Trim a) (hb : Trim b) (la : a.length ≤ m) (lb : b.length ≤ m) : apartL a b m = [] ↔ a = b := by
  constructor
  · intro h
    have hev : ∀ n, n < m → evR 0 a (n : Rat) = evR 0 b (n : Rat) := fun n hn => by
      have := List.filter_eq_nil_iff.mp h n (List.mem_range.mpr hn)
      simpa using this
    have hc : ∀ n, n ≤ m → ∀ i, i < n → coef a i = coef b i := by
      intro n
      induction n with
      | zero => intro _ i hi; omega
      | succ n ih =>
        intro hn i hi
        have ih := ih (by omega)
        rcases Nat.lt_or_ge i n with h2 | h2
        · exact ih i h2
        · have : i = n := by omega
          subst this
          have h3 := ev_diff ih
          rw [hev i (by omega)] at h3
          grind
    refine Trim.ext ha hb fun k => ?_
    rcases Nat.lt_or_ge k m with h2 | h2
    · exact hc m (Nat.le_refl _) k h2
    · rw [coef_beyond (by omega), coef_beyond (by omega)]
  · rintro rfl
    exact List.filter_eq_nil_iff.mpr fun n _ => by simp
theorem apart_cons {a b : List Rat} {m n : Nat} {r : List Nat} (h : apartL a b m = n :: r) : n < m ∧ (∀ i, i < n → coef a i = coef b i) ∧ evR 0 a (n : Rat) - evR 0 b (n : Rat) = coef a n - coef b n ∧ coef a n ≠ coef b n := by
  have hm : n ∈ apartL a b m := by rw [h]; simp
  obtain ⟨h1, h2⟩ := List.mem_filter.mp hm
  have hn := List.mem_range.mp h1
  have hlow : ∀ i, i < n → evR 0 a (i : Rat) = evR 0 b (i : Rat) := fun i hi => by
    refine Classical.byContradiction fun z => ?_
    have hi2 : i ∈ apartL a b m := List.mem_filter.mpr ⟨List.mem_range.mpr (by omega), by simpa using z⟩
    have hp : (apartL a b m).Pairwise (· < ·) := (List.pairwise_lt_range).filter _
    rw [h] at hp hi2
    rcases List.mem_cons.mp hi2 with e | hi2
    · omega
    · have := (List.pairwise_cons.mp hp).1 i hi2
      omega
  have hc : ∀ k, k ≤ n → ∀ i, i < k → coef a i = coef b i := by
    intro k
    induction k with
    | zero => intro _ i hi; omega
    | succ k ih =>
      intro hk i hi
      have ih := ih (by omega)
      rcases Nat.lt_or_ge i k with h3 | h3
      · exact ih i h3
      · have : i = k := by omega
        subst this
        have h3 := ev_diff ih
        rw [hlow i (by omega)] at h3
        grind
  have hd := ev_diff (hc n (Nat.le_refl _))
  refine ⟨hn, hc n (Nat.le_refl _), hd, fun z => ?_⟩
  rw [z] at hd
  have : evR 0 a (n : Rat) = evR 0 b (n : Rat) := by grind
  simp [this] at h2
theorem minI_of {ns : List Int} {m : Int} (hm : m ∈ ns) (h : ∀ x ∈ ns, m ≤ x) : minI ns = some m := by
  cases ns with
  | nil => cases hm
  | cons n ns =>
    show some (ns.foldl min n) = some m
    congr 1
    have key : ∀ (ns : List Int) (n : Int), (ns.foldl min n ∈ n :: ns) ∧ ∀ x ∈ n :: ns, ns.foldl min n ≤ x := by
      intro ns
      induction ns with
      | nil => intro n; simp
      | cons a ns ih =>
        intro n
        rw [List.foldl_cons]
        obtain ⟨h1, h2⟩ := ih (min n a)
        refine ⟨?_, fun x hx => ?_⟩
        · rcases List.mem_cons.mp h1 with e | e
          · rw [e]
            rcases Int.le_total n a with h | h
            · rw [Int.min_eq_left h]; simp
            · rw [Int.min_eq_right h]; simp
          · exact List.mem_cons_of_mem _ (List.mem_cons_of_mem _ e)
        · have h3 := h2 (min n a) (by simp)
          rcases List.mem_cons.mp hx with rfl | hx
          · exact Int.le_trans h3 (Int.min_le_left _ _)
          · rcases List.mem_cons.mp hx with rfl | hx
            · exact Int.le_trans h3 (Int.min_le_right _ _)
            · exact h2 x (List.mem_cons_of_mem _ hx)
    obtain ⟨h1, h2⟩ := key ns n
    have a := h _ h1
    have b := h2 _ hm
    omega
structure Rows2 (N D : Nat) (a b : List Rat) : Prop where
  ta : Trim a
  tb : Trim b
  sa : SzA N D a
  sb : SzA N D b
  la : a.length ≤ 8
  lb : b.length ≤ 8
  hN : N ≤ 400
  hD : 1 ≤ D ∧ D ≤ 60
theorem Rows2.ra {N D : Nat} {a b : List Rat} (R : Rows2 N D a b) (n : Nat) (hn : n ≤ 15) : RowN 4 N D a (n : Int) :=
  ⟨R.sa, by show ((n : Int)).natAbs < 2 ^ 4; omega, by have := R.la; omega, by have := R.la; omega, by
    have h1 := R.la; have h2 := R.hN; have h3 := R.hD.2
    have : a.length * (D + 2) ≤ 8 * 62 := Nat.mul_le_mul h1 (by omega)
    omega, by
    have h1 := R.la; have h3 := R.hD.2
    have : a.length * (D + 1) ≤ 8 * 61 := Nat.mul_le_mul h1 (by omega)
    omega⟩
theorem Rows2.sym {N D : Nat} {a b : List Rat} (R : Rows2 N D a b) : Rows2 N D b a := ⟨R.tb, R.ta, R.sb, R.sa, R.lb, R.la, R.hN, R.hD⟩
def sameD (a b : List Rat) : PyData := match apartL a b 9 with
  | [] => .tuple [.str "same", rowT a]
  | n :: _ => .tuple [.str "apart", .int (n : Nat), fr (evR 0 a (n : Rat)), fr (evR 0 b (n : Rat))]
theorem lessR_nil {a b : List Rat} (ha : Trim a) (hb : Trim b) : lessR a b = [] ↔ a = b := by
  constructor
  · intro h
    refine Trim.ext ha hb fun k => ?_
    have := coef_less a b k
    rw [h] at this
    have h0 : coef [] k = 0 := rfl
    rw [h0] at this
    grind
  · rintro rfl
    exact trim_nil fun k => by rw [coef_zipR (by grind)]; grind
theorem t_same_answer_eq {N D : Nat} {a b : List Rat} (R : Rows2 N D a b) : t_same_answer (rowT a) (rowT b) = pure (sameD a b) := by
  have hl := t_row_less_eq (a := a) (b := b) (R.sa.up (by have := R.hN; omega) (by have := R.hD.2; omega)) (R.sb.up (by have := R.hN; omega) (by have := R.hD.2; omega)) (by have := R.la; omega) (by have := R.lb; omega)
  have he := eq_rowT (lessR a b) []
  have he' : pyEq (.tuple ((lessR a b).map fr)) (.tuple []) = some (.d (.bool (decide (lessR a b = [])))) := he
  have ln := lessR_nil R.ta R.tb
  have an := apart_nil (m := 9) R.ta R.tb (by have := R.la; omega) (by have := R.lb; omega)
  unfold t_same_answer sameD
  simp only [pure_bind, hl, sNil_p, sTup_p, sSz_nil, sBin_p, he', sOp_d, sBool_p, sIf_p]
  cases q : apartL a b 9 with
  | nil =>
    have : lessR a b = [] := ln.mpr (an.mp q)
    rw [decide_eq_true this, if_pos rfl]
    simp
  | cons n r =>
    have hne : lessR a b ≠ [] := fun z => by
      have := an.mpr (ln.mp z)
      rw [q] at this; cases this
    obtain ⟨h1, h2, h3, h4⟩ := apart_cons q
    have hcn : coef (lessR a b) n ≠ 0 := by rw [coef_less]; grind
    have hlen : n < (lessR a b).length := by
      rcases Nat.lt_or_ge n (lessR a b).length with z | z
      · exact z
      · exact absurd (coef_beyond z) hcn
    have lb9 : (lessR a b).length ≤ 8 := by
      unfold lessR
      have h1 := trim_le (zipR (· - ·) a b)
      rw [zipR_len] at h1
      have := R.la; have := R.lb
      omega
    have hcomp : compG (fun p : Rat × Nat => sBool (sBin pyNe (pure (fr p.1)) (sSz PyData.tuple [.int 0, .int 1])) >>= fun c => if c then pure (some (PyData.int (p.2 : Nat))) else pure none) (lessR a b).zipIdx = pure ((((lessR a b).zipIdx.filter fun p => !decide (p.1 = 0)).map fun p => ((p.2 : Nat) : Int)).map PyData.int) :=
      compG_enc PyData.int (fun p : Rat × Nat => !decide (p.1 = 0)) (fun p => ((p.2 : Nat) : Int)) fun p _ => by
        rw [sSz_2, fr_zero, sBin_p, ne_fr, sOp_d, sBool_p, pure_bind]
    have hmin : minI (((lessR a b).zipIdx.filter fun p => !decide (p.1 = 0)).map fun p => ((p.2 : Nat) : Int)) = some (n : Int) := by
      refine minI_of ?_ fun x hx => ?_
      · refine List.mem_map.mpr ⟨(coef (lessR a b) n, n), List.mem_filter.mpr ⟨?_, by simpa using hcn⟩, rfl⟩
        refine List.mem_zipIdx_iff_getElem?.mpr ?_
        rw [List.getElem?_eq_getElem hlen]
        unfold coef
        rw [List.getD_eq_getElem?_getD, List.getElem?_eq_getElem hlen]
        rfl
      · obtain ⟨p, hp, rfl⟩ := List.mem_map.mp hx
        obtain ⟨hp1, hp2⟩ := List.mem_filter.mp hp
        obtain ⟨c, i⟩ := p
        have hg := List.mem_zipIdx_iff_getElem?.mp hp1
        have hci : coef (lessR a b) i = c := by unfold coef; rw [List.getD_eq_getElem?_getD, hg]; rfl
        have hc0 : c ≠ 0 := by simpa using hp2
        show (n : Int) ≤ ((i : Nat) : Int)
        rcases Nat.lt_or_ge i n with z | z
        · exfalso
          have := h2 i z
          rw [coef_less] at hci
          exact hc0 (by grind)
        · omega
    have z : ((((lessR a b).zipIdx.filter fun p => !decide (p.1 = 0)).map fun p => ((p.2 : Nat) : Int)).map PyData.int).length ≤ 16777216 := by
      rw [List.length_map, List.length_map]
      refine Nat.le_trans (List.length_filter_le _ _) ?_
      rw [List.length_zipIdx]; omega
    have ra := t_row_at_eq (rowT a) (.inl rfl) (R.ra n (by omega))
    have rb := t_row_at_eq (rowT b) (.inl rfl) (R.sym.ra n (by omega))
    rw [decide_eq_false hne, if_neg Bool.false_ne_true]
    simp only [sEnum_t, numbered_fr, sComp_p, compG_map, un2_p, opt_some, pure_bind, sCons_p, sTup_p, hcomp, sSz_eq PyData.list z, sCallB_p, min_l hmin, sOp_d]
    have ra' : t_row_at (.tuple (a.map fr)) (.int (n : Int)) = _ := ra
    have rb' : t_row_at (.tuple (b.map fr)) (.int (n : Int)) = _ := rb
    simp only [ra, rb, sCons_p, sTup_p, sSz_4]
    rfl
end LR
namespace LR
open PySem L2 DL
theorem ne_bools (a b : Bool) : pyNe (.bool a) (.bool b) = some (.d (.bool (a != b))) := by cases a <;> cases b <;> rfl
theorem p1600 : 2 ^ 1600 ≤ 10 ^ 482 := by decide +kernel
theorem int_rk {i : Int} (h : Zk 1600 i) : Rk 1 484 (.int i) := Rk.intB (Nat.lt_of_lt_of_le h p1600) (by omega)
theorem fr_rk {r : Rat} (h : Sz 1600 1600 r) : Rk 2 976 (fr r) := Rk.mono (Rk.tup (n := 2) (d := 1) (b := 484) (fun x hx => by
  simp only [List.mem_cons, List.not_mem_nil, or_false] at hx
  rcases hx with rfl | rfl
  · exact int_rk h.nz
  · exact int_rk h.dz) (by simp)) (by omega) (by omega)
theorem row_rk {l : List Rat} (h : SzA 1600 1600 l) (hl : l.length ≤ 8) : Rk 3 8000 (rowT l) := Rk.mono (Rk.tup (n := 8) (d := 2) (b := 976) (fun x hx => by
  obtain ⟨r, hr, rfl⟩ := List.mem_map.mp hx
  exact fr_rk (h r hr)) (by simpa using hl)) (by omega) (by omega)
theorem str_rk (s : Str) (h : atomOk (.str s) = true) : Rk 3 8000 (.str s) := (Rk.atom h).mono (by omega) (by omega)
theorem same_rk {a b : List Rat} (h : SzA 1600 1600 a) (hl : a.length ≤ 8) (ha : ∀ n : Nat, n < 9 → Sz 1600 1600 (evR 0 a (n : Rat))) (hb : ∀ n : Nat, n < 9 → Sz 1600 1600 (evR 0 b (n : Rat))) : Rk 4 40000 (sameD a b) := by
  unfold sameD
  cases q : apartL a b 9 with
  | nil =>
    refine Rk.mono (Rk.tup (n := 2) (d := 3) (b := 8000) (fun x hx => ?_) (by simp)) (by omega) (by omega)
    simp only [List.mem_cons, List.not_mem_nil, or_false] at hx
    rcases hx with rfl | rfl
    · exact str_rk _ (by decide +kernel)
    · exact row_rk h hl
  | cons n r =>
    obtain ⟨h1, _⟩ := apart_cons q
    refine Rk.mono (Rk.tup (n := 4) (d := 3) (b := 8000) (fun x hx => ?_) (by simp)) (by omega) (by omega)
    simp only [List.mem_cons, List.not_mem_nil, or_false] at hx
    rcases hx with rfl | rfl | rfl | rfl
    · exact str_rk _ (by decide +kernel)
    · exact (int_rk (i := (n : Nat)) (show ((n : Nat) : Int).natAbs < 2 ^ 1600 from Nat.lt_of_lt_of_le (show ((n : Nat) : Int).natAbs < 2 ^ 4 by omega) (Nat.pow_le_pow_right (by decide) (by decide)))).mono (by omega) (by omega)
    · exact (fr_rk (ha n h1)).mono (by omega) (by omega)
    · exact (fr_rk (hb n h1)).mono (by omega) (by omega)
theorem list_rk {d b : Nat} {ds : List PyData} (h : ∀ x ∈ ds, Rk d b x) (hl : ds.length ≤ 2) (hd : d ≤ 50) (hb : b ≤ 100000) : reprOk (.list ds) = true := (Rk.lst h hl).ok (by omega) (by omega)
/-- the first worths of a row -/
def wl (a : List Rat) : List PyData := (List.range 9).map fun n => fr (evR 0 a ((n : Nat) : Rat))
theorem nat_rat (n : Nat) : (((n : Nat) : Int) : Rat) = ((n : Nat) : Rat) := rfl
theorem range9 : sRange1 (pure (.int 9)) = pure ((List.range 9).map fun n : Nat => PyData.int (n : Int)) := rfl
theorem worths_eq {a : List Rat} {N D : Nat} (R : ∀ n : Nat, n < 9 → RowN 4 N D a (n : Int)) (hN : N ≤ 90000) : sCompA un1 (sRange1 (pure (.int 9))) (fun q17 => ((pure (rowT a)) >>= fun y18 => ((pure q17) >>= fun y19 => t__law_at y18 y19))) = pure (.list (wl a)) := by
  have hm : mapG (fun n : Nat => (t__law_at (rowT a) (.int (n : Int)))) (List.range 9) = pure (wl a) := mapG_eq _ fun n hn => by
    rw [t__law_at_eq (R n (List.mem_range.mp hn)) hN, nat_rat]
  rw [range9]
  simp only [sCompA_p, mapG_map, un1_p, opt_some, pure_bind, hm]
  exact sSz_eq _ (by simp [wl])
theorem ix_wl (a : List Rat) {n : Nat} (h : n < 9) : pyIx (.list (wl a)) (.int ((n : Nat) : Int)) = some (.d (fr (evR 0 a (n : Rat)))) := by
  have ha : atI (wl a) (n : Int) = some (fr (evR 0 a (n : Rat))) := atI_nat (by unfold wl; rw [List.getElem?_map, List.getElem?_range h]; rfl)
  unfold pyIx
  simp only [ha, Option.map_some]
theorem apart_eq (a b : List Rat) : sComp un1 (sRange1 (pure (.int 9))) (fun q21 => (sBool (sBin pyNe (sBin pyIx (sBin pyIx (pure (.list [.list (wl a), .list (wl b)])) (pure (.int 0))) (pure q21)) (sBin pyIx (sBin pyIx (pure (.list [.list (wl a), .list (wl b)])) (pure (.int 1))) (pure q21))))) (fun q21 => (pure q21)) = pure (.list ((apartL a b 9).map fun n : Nat => PyData.int (n : Int))) := by
  have i0 : pyIx (.list [.list (wl a), .list (wl b)]) (.int 0) = some (.d (.list (wl a))) := rfl
  have i1 : pyIx (.list [.list (wl a), .list (wl b)]) (.int 1) = some (.d (.list (wl b))) := rfl
  rw [range9]
  simp only [sComp_p, compG_map, un1_p, opt_some, pure_bind, sBin_p, i0, i1, sOp_d]
  rw [compG_eq (fun n : Nat => !decide (evR 0 a (n : Rat) = evR 0 b (n : Rat))) (fun n : Nat => PyData.int (n : Int)) fun n hn => by
    rw [ix_wl a (List.mem_range.mp hn), ix_wl b (List.mem_range.mp hn)]
    simp only [sOp_d, sBin_p, ne_fr, sBool_p, pure_bind]]
  rw [pure_bind]
  have := List.length_filter_le (fun n : Nat => !decide (evR 0 a (n : Rat) = evR 0 b (n : Rat))) (List.range 9)
  rw [List.length_range] at this
  exact sSz_eq _ (by rw [List.length_map]; omega)
/-- the line of a term -/
theorem line_mul (n : Nat) (hn : n ≤ 100000) : pyMul (.list [fr 0]) (.int (n : Int)) = some (.fr (rowL (List.replicate n 0))) := by
  have h1 : (n : Int).natAbs < 2 ^ 62 := by omega
  have h2 : [fr 0].length * (n : Int).toNat ≤ sizeLine := by rw [sizeLine_eq]; simp; omega
  have e3 : (List.replicate (n : Int).toNat [fr 0]).flatten = (List.replicate n (0 : Rat)).map fr := by
    rw [List.map_replicate, Int.toNat_natCast]
    clear h1 h2 hn
    induction n with
    | zero => rfl
    | succ m ih => rw [List.replicate_succ, List.replicate_succ, List.flatten_cons, ih]; rfl
  show (if decide _ && decide _ then _ else _) = _
  rw [decide_eq_true h1, decide_eq_true h2, e3]
  rfl
theorem SzA.less {m k n l c : Nat} {a b : List Rat} (ha : SzA m k a) (hb : SzA n l b) (hk : 1 ≤ k) (hl : 1 ≤ l) (h1 : m + l ≤ c) (h2 : n + k ≤ c) : SzA (c + 1) (k + l) (lessR a b) := fun x hx => by
  unfold lessR at hx
  have : ∀ y ∈ zipR (· - ·) a b, Sz (c + 1) (k + l) y := fun y hy => by
    obtain ⟨u, v, hu, hv, rfl⟩ := zipR_mem hy
    exact (ha.wide hk u hu).sub (hb.wide hl v hv) h1 h2
  exact SzA.trim this x hx
theorem less_len {a b : List Rat} {n : Nat} (la : a.length ≤ n) (lb : b.length ≤ n) : (lessR a b).length ≤ n := by
  have := trim_le (zipR (· - ·) a b)
  rw [zipR_len] at this
  unfold lessR; omega
theorem at_coef {l : List Rat} (x y : S PyData) {n : Nat} (x1 : x = pure (.int (n : Int))) : sIf (sBool (sBin pyLt x (sCallB DL.pyLen (sCons (pure (rowT l)) sNil)))) (sBin pyIx (pure (rowT l)) x) (sTup (sCons (pure (.int 0)) (sCons (pure (.int 1)) sNil))) = pure (fr (coef l n)) := by
  subst x1
  simp only [sNil_p, sCons_p, sCallB_p, len_t, List.length_map, sOp_d, sBin_p, pyLt_ii, sBool_p, sIf_p, sTup_p, sSz_2, fr_zero]
  by_cases h : n < l.length
  · have := ix_frT h
    rw [decide_eq_true (show (n : Int) < (l.length : Int) by omega), if_pos rfl]
    have e : pyIx (.tuple (l.map fr)) (.int (n : Int)) = _ := this
    rw [e]; rfl
  · rw [decide_eq_false (show ¬ (n : Int) < (l.length : Int) by omega), if_neg (by decide), coef_beyond (by omega)]
theorem settle_eq (l : List Rat) (hl : l.length ≤ 10000) : (((sCompA un1 (sItems (pure (rowT l))) (fun q58 => (sBin pyIx (pure q58) (pure (.int 0))))) >>= fun v59 => ((sOrV (sBin pyEq (pure v59) (sLst sNil)) (sOrV (sAndV (sBin pyGt (pure (.int (coef l 0).num)) (pure (.int 0))) (sBin pyGe (sCallB pyMin (sCons (pure v59) sNil)) (pure (.int 0)))) (sAndV (sBin pyLt (pure (.int (coef l 0).num)) (pure (.int 0))) (sBin pyLe (sCallB pyMax (sCons (pure v59) sNil)) (pure (.int 0)))))))) : S PyData) = pure (.bool (settled l)) := by
  have hm : mapG (fun c : Rat => sOp (pyIx (fr c) (.int 0))) l = pure ((l.map Rat.num).map PyData.int) := mapG_enc PyData.int _ fun c _ => rfl
  simp only [sItems_t, sCompA_p, mapG_map, un1_p, opt_some, pure_bind, sBin_p, hm]
  rw [sSz_eq _ (by simpa using (show l.length ≤ 16777216 by omega)), pure_bind]
  cases l with
  | nil => rfl
  | cons c l =>
    have hmin : ∃ m, minI ((c :: l).map Rat.num) = some m := ⟨_, rfl⟩
    have hmax : ∃ m, maxI ((c :: l).map Rat.num) = some m := ⟨_, rfl⟩
    obtain ⟨m, hm1⟩ := hmin
    obtain ⟨M, hm2⟩ := hmax
    have g1 := minI_ge hm1
    have g2 := maxI_le hm2
    have he : pyEq (.list (((c :: l).map Rat.num).map PyData.int)) (.list []) = some (.d (.bool false)) := by rw [pyEq_l0]; rfl
    have h0 : coef (c :: l) 0 = c := rfl
    unfold settled
    simp only [sNil_p, sLst_p, sSz_nil, sBin_p, he, sOp_d, sOrV_p, Bool.false_eq_true, if_false, pyGt_ii, sAndV_p, sCons_p, sCallB_p, min_l hm1, max_l hm2, pyGe_ii, pyLe_ii, pyLt_ii, g1, g2, h0, List.all_map, show (decide (c :: l = [])) = false by simp, Bool.false_or, Function.comp_def]
    generalize ((c :: l).all fun x => decide (0 ≤ x.num)) = A
    generalize ((c :: l).all fun x => decide (x.num ≤ 0)) = B
    cases decide (0 < c.num) <;> cases A <;> cases decide (c.num < 0) <;> cases B <;> rfl
end LR
namespace LJ
open PySem L2 DL
def t__law_is_int (x0 : PyData) : S PyData :=
  (sAndV (sIsi "int" (pure x0)) (sNotV (sIsi "bool" (pure x0))))
def twc__law_fraction_1 (v : PyData × PyData) : S Bool :=
  (sBool (sBin pyGt (pure v.2) (pure (.int 0))))
def twb__law_fraction_2 (v : PyData × PyData) : S (PyData × PyData) :=
  (((sCons (pure v.2) (sCons (sBin pyMod (sCallB pyInt (sCons (pure v.1) sNil)) (pure v.2)) sNil)) >>= fun xs => S.opt (two xs)) >>= fun v3 => pure (v3.1, v3.2))
def fuel__law_fraction : Nat := 1000000
def t__law_fraction (x0 x1 : PyData) : S PyData :=
  (((sCons (sCallB pyAbs (sCons (pure x0) sNil)) (sCons (sCallB pyAbs (sCons (pure x1) sNil)) sNil)) >>= fun xs => S.opt (two xs)) >>= fun v1 => ((whileS twc__law_fraction_1 twb__law_fraction_2 fuel__law_fraction (v1.1, v1.2)) >>= fun v4 => ((sIf (sBool (sBin pyGt (pure x1) (pure (.int 0)))) (pure (.int 1)) (sBin pySub (pure (.int 0)) (pure (.int 1)))) >>= fun v5 => (sTup (sCons (sBin pyFloorDiv (sBin pyMul (pure v5) (pure x0)) (pure v4.1)) (sCons (sBin pyFloorDiv (sBin pyMul (pure v5) (pure x1)) (pure v4.1)) sNil))))))
def t__law_plus (x0 x1 : PyData) : S PyData :=
  ((sBin pyAdd (sBin pyMul (sBin pyIx (pure x0) (pure (.int 0))) (sBin pyIx (pure x1) (pure (.int 1)))) (sBin pyMul (sBin pyIx (pure x1) (pure (.int 0))) (sBin pyIx (pure x0) (pure (.int 1))))) >>= fun y1 => ((sBin pyMul (sBin pyIx (pure x0) (pure (.int 1))) (sBin pyIx (pure x1) (pure (.int 1)))) >>= fun y2 => t__law_fraction y1 y2))
def t__law_by (x0 x1 : PyData) : S PyData :=
  ((sBin pyMul (sBin pyIx (pure x0) (pure (.int 0))) (sBin pyIx (pure x1) (pure (.int 0)))) >>= fun y1 => ((sBin pyMul (sBin pyIx (pure x0) (pure (.int 1))) (sBin pyIx (pure x1) (pure (.int 1)))) >>= fun y2 => t__law_fraction y1 y2))
def twc__law_trimmed_1 (v : PyData) : S Bool :=
  (sAndT (sBool (sBin pyNe (pure v) (sLst sNil))) (sBool (sBin pyEq (sBin pyIx (pure v) (sUn pyNeg (pure (.int 1)))) (sTup (sCons (pure (.int 0)) (sCons (pure (.int 1)) sNil))))))
def twb__law_trimmed_2 (v : PyData) : S (PyData) :=
  ((popS v >>= fun q => pure q.2) >>= fun v3 => pure v3)
def fuel__law_trimmed : Nat := 1000000
def t__law_trimmed (x0 : PyData) : S PyData :=
  ((sCallB pyListOf (sCons (pure x0) sNil)) >>= fun v1 => ((whileS twc__law_trimmed_1 twb__law_trimmed_2 fuel__law_trimmed v1) >>= fun v4 => (sCallB pyTupOf (sCons (pure v4) sNil))))
def t__law_is_fraction (x0 : PyData) : S PyData :=
  (sIf (sOrT (sNotT (sBool (sIsi "tuple" (pure x0)))) (sOrT (sBool (sBin pyNe (sCallB DL.pyLen (sCons (pure x0) sNil)) (pure (.int 2)))) (sBool (sBin pyNe (sComp un1 (sItems (pure x0)) (fun q1 => (sNotT (sBool ((pure q1) >>= fun y2 => t__law_is_int y2)))) (fun q1 => (pure q1))) (sLst sNil))))) (pure (.bool false)) (sAndV (sBin pyGt (sBin pyIx (pure x0) (pure (.int 1))) (pure (.int 0))) (sBin pyEq ((sBin pyIx (pure x0) (pure (.int 0))) >>= fun y3 => ((sBin pyIx (pure x0) (pure (.int 1))) >>= fun y4 => t__law_fraction y3 y4)) (pure x0))))
def tlb__law_choose_1 (p0 : PyData) (v : PyData × PyData) (q : PyData) : S (PyData × PyData) :=
  (((sCons (sBin pyMul (pure v.1) (sBin pySub (pure p0) (pure q))) (sCons (sBin pyMul (pure v.2) (sBin pyAdd (pure q) (pure (.int 1)))) sNil)) >>= fun xs => S.opt (two xs)) >>= fun v2 => pure (v2.1, v2.2))
def t__law_choose (x0 x1 : PyData) : S PyData :=
  (((sTup (sCons (pure (.int 1)) (sCons (pure (.int 1)) sNil))) >>= fun x => S.opt (un2 x)) >>= fun v1 => (((sRange1 (pure x1)) >>= fun xs_ => foldS (fun w_ x_ => S.opt (un1 x_) >>= (tlb__law_choose_1 x0) w_) xs_ (v1.1, v1.2)) >>= fun v5 => (sBin pyFloorDiv (pure v5.1) (pure v5.2))))
def tlb__law_row_at_1 (p1 : PyData) (v : PyData) (q : PyData × PyData) : S (PyData) :=
  (((pure v) >>= fun y6 => (((sTup (sCons ((pure p1) >>= fun y2 => ((pure q.1) >>= fun y3 => t__law_choose y2 y3)) (sCons (pure (.int 1)) sNil))) >>= fun y4 => ((pure q.2) >>= fun y5 => t__law_by y4 y5)) >>= fun y7 => t__law_plus y6 y7)) >>= fun v8 => pure v8)
def t__law_row_at (x0 x1 : PyData) : S PyData :=
  ((sTup (sCons (pure (.int 0)) (sCons (pure (.int 1)) sNil))) >>= fun v1 => (((sEnum (pure x0)) >>= fun xs_ => foldS (fun w_ x_ => S.opt (un2 x_) >>= (tlb__law_row_at_1 x1) w_) xs_ v1) >>= fun v11 => (pure v11)))
def t__law_minus (x0 x1 : PyData) : S PyData :=
  ((pure x0) >>= fun y1 => ((sTup (sCons (sBin pySub (pure (.int 0)) (sBin pyIx (pure x1) (pure (.int 0)))) (sCons (sBin pyIx (pure x1) (pure (.int 1))) sNil))) >>= fun y2 => t__law_plus y1 y2))
def t__law_is_row (x0 : PyData) : S PyData :=
  (sIf (sOrT (sNotT (sBool (sIsi "tuple" (pure x0)))) (sBool (sBin pyNe (sComp un1 (sItems (pure x0)) (fun q1 => (sNotT (sBool ((pure q1) >>= fun y2 => t__law_is_fraction y2)))) (fun q1 => (pure q1))) (sLst sNil)))) (pure (.bool false)) (sOrV (sBin pyEq (pure x0) (sTup sNil)) (sBin pyNe (sBin pyIx (pure x0) (sUn pyNeg (pure (.int 1)))) (sTup (sCons (pure (.int 0)) (sCons (pure (.int 1)) sNil))))))
def tlb__law_fault_1 (p1 : PyData) (v : Unit) (q : PyData × PyData) : S (Out (Unit) (Unit)) :=
  (sIf (sBool (sBin pyNe ((pure p1) >>= fun y2 => ((pure q.1) >>= fun y3 => t__law_row_at y2 y3)) (pure q.2))) ((sTup (sCons (pure (.str "at")) (sCons (pure q.1) (sCons (pure q.2) sNil)))) >>= fun x => pure (.ret x)) (pure (.nxt ())))
def tlb__law_fault_2 (v : PyData) (q : PyData × PyData) : S (PyData) :=
  ((((pure q.2) >>= fun y10 => ((((pure v) >>= fun y8 => ((pure q.1) >>= fun y9 => t__law_row_at y8 y9)) >>= noLstS) >>= fun y11 => t__law_minus y10 y11)) >>= fun y12 => appS v y12) >>= fun v13 => pure v13)
def t__law_fault (x0 x1 : PyData) : S PyData :=
  (sIf (sNotT (sBool ((pure x1) >>= fun y1 => t__law_is_row y1))) (sTup (sCons (pure (.str "form")) sNil)) (((sEnum (pure x0)) >>= fun xs_ => forO (κ := Empty) (fun w_ x_ => S.opt (un2 x_) >>= (tlb__law_fault_1 x1) w_) xs_ ()) >>= outR fun v6 => ((sLst sNil) >>= fun v7 => (((sEnum (pure x0)) >>= fun xs_ => foldS (fun w_ x_ => S.opt (un2 x_) >>= tlb__law_fault_2 w_) xs_ v7) >>= fun v16 => (sIf (sBool (sBin pyGt (sCallB DL.pyLen (sCons (pure x1) sNil)) (sCallB DL.pyLen (sCons (pure x0) sNil)))) (sTup (sCons (pure (.str "longer")) (sCons (sCallB DL.pyLen (sCons ((pure v16) >>= fun y17 => t__law_trimmed y17) sNil)) sNil))) (pure .none))))))
end LJ
namespace LJ
open PySem L2 DL LR
theorem bf_trim : fuel__law_trimmed = LR.fuel__law_trimmed := rfl
theorem b_trimmed : t__law_trimmed = LR.t__law_trimmed := by funext x; unfold t__law_trimmed LR.t__law_trimmed; rw [bf_trim]; rfl
theorem tw_eq : twc__law_fraction_1 = LR.twc__law_low_1 := rfl
theorem tb_eq : twb__law_fraction_2 = LR.twb__law_low_2 := rfl
theorem z1 : Zk 1 1 := by unfold Zk; decide
theorem t__law_fraction_eq {p q : Int} (hq : 0 < q) (hp : Zk 900000 p) (hz : Zk 8999 q) : t__law_fraction (.int p) (.int q) = pure (fr (Rat.divInt p q)) := by
  obtain ⟨b, rfl⟩ := Int.eq_ofNat_of_zero_le (show 0 ≤ q by omega)
  have hb : b < 2 ^ 8999 := by have : ((b : Int)).natAbs < 2 ^ 8999 := hz; rwa [Int.natAbs_natCast] at this
  have hw := euclid fuel__law_fraction 8999 p.natAbs b hb (by unfold fuel__law_fraction; omega)
  have hg0 : 0 < Nat.gcd p.natAbs b := Nat.gcd_pos_of_pos_right _ (by omega)
  have hgz : Zk 8999 ((Nat.gcd p.natAbs b : Nat) : Int) := by
    have h1 : Nat.gcd p.natAbs b ≤ b := Nat.gcd_le_right _ (by omega)
    show ((Nat.gcd p.natAbs b : Nat) : Int).natAbs < 2 ^ 8999
    rw [Int.natAbs_natCast]
    exact Nat.lt_of_le_of_lt h1 hb
  have fd := fun i => fdiv_z (i := i) hgz (by omega) (by omega)
  have eg : (((b : Int).gcd p : Nat) : Int) = ((Nat.gcd p.natAbs b : Nat) : Int) := by
    show ((Nat.gcd ((b : Int)).natAbs p.natAbs : Nat) : Int) = _
    rw [Int.natAbs_natCast, Nat.gcd_comm]
  have ab : pyAbs [.int (b : Int)] = some (.d (.int (b : Int))) := by rw [abs_nat, Int.natAbs_natCast]
  unfold t__law_fraction
  rw [tw_eq, tb_eq]
  simp only [sNil_p, sCons_p, sCallB_p, abs_nat p, ab, sOp_d, two_p, opt_some, pure_bind, hw, sBin_p, pyGt_ii, hq, decide_true, sBool_p, sIf_p, if_true, mul_z z1 hp (by omega), mul_z z1 hz (by omega), Int.one_mul, fd, sTup_p, sSz_2]
  unfold fr
  rw [Rat.num_divInt, Rat.den_divInt, if_neg (by omega), Int.sign_eq_one_of_pos hq, Int.one_mul, eg, Int.natCast_ediv, eg, Int.natAbs_natCast]
theorem t__law_plus_eq {a b : Rat} (ha : Sz 400000 4000 a) (hb : Sz 400000 4000 b) : t__law_plus (fr a) (fr b) = pure (fr (a + b)) := by
  unfold t__law_plus fr
  simp only [sBin_p, ix0, ix1, sOp_d, mul_z ha.nz hb.dz (by omega), mul_z hb.nz ha.dz (by omega), mul_z ha.dz hb.dz (by omega), pyAdd_ii, pure_bind]
  have hpos : (0 : Int) < (a.den : Int) * (b.den : Int) := Int.mul_pos (by have := a.den_pos; omega) (by have := b.den_pos; omega)
  rw [t__law_fraction_eq hpos ((((ha.nz.mul hb.dz).up (show _ ≤ 404000 by omega)).add ((hb.nz.mul ha.dz).up (show _ ≤ 404000 by omega))).up (by omega)) ((ha.dz.mul hb.dz).up (by omega)), div_add]
  rfl
theorem t__law_by_eq {a b : Rat} (ha : Sz 400000 4000 a) (hb : Sz 400000 4000 b) : t__law_by (fr a) (fr b) = pure (fr (a * b)) := by
  unfold t__law_by fr
  simp only [sBin_p, ix0, ix1, sOp_d, mul_z ha.nz hb.nz (by omega), mul_z ha.dz hb.dz (by omega), pure_bind]
  have hpos : (0 : Int) < (a.den : Int) * (b.den : Int) := Int.mul_pos (by have := a.den_pos; omega) (by have := b.den_pos; omega)
  rw [t__law_fraction_eq hpos ((ha.nz.mul hb.nz).up (by omega)) ((ha.dz.mul hb.dz).up (by omega)), div_mul]
  rfl
theorem t__law_minus_eq {a b : Rat} (ha : Sz 400000 4000 a) (hb : Sz 400000 4000 b) : t__law_minus (fr a) (fr b) = pure (fr (a - b)) := by
  have hn : Sz 400000 4000 (-b) := ⟨by show (-b.num).natAbs < _; rw [Int.natAbs_neg]; exact hb.n, hb.d⟩
  have e : (.tuple [.int (0 - b.num), .int (b.den : Nat)] : PyData) = fr (-b) := by show _ = PyData.tuple [.int (-b.num), .int (b.den : Nat)]; congr 3; omega
  have f0 : pyIx (fr b) (.int 0) = some (.d (.int b.num)) := rfl
  have f1 : pyIx (fr b) (.int 1) = some (.d (.int (b.den : Nat))) := rfl
  unfold t__law_minus
  simp only [pure_bind, sBin_p, f0, f1, sOp_d, pySub_ii, sNil_p, sCons_p, sTup_p, sSz_2, e, t__law_plus_eq ha hn]
  rw [show a + -b = a - b by grind]
def fa : Nat → Int
  | 0 => 1
  | j + 1 => fa j * ((j : Int) + 1)
theorem fa_pos : ∀ j, 0 < fa j
  | 0 => by decide
  | j + 1 => Int.mul_pos (fa_pos j) (by omega)
theorem fa_z : ∀ j, j ≤ 100 → Zk (7 * j + 1) (fa j)
  | 0, _ => by unfold Zk fa; decide
  | j + 1, h => ((fa_z j (by omega)).mul (show Zk 7 ((j : Int) + 1) from show ((j : Int) + 1).natAbs < 2 ^ 7 by omega)).up (by omega)
theorem t__law_choose_eq {t : Nat} {n : Int} {k : Nat} (hn : Zk t n) (hk : k ≤ 2 ^ t) (h : (t + 1) * (k + 2) ≤ 100000) (hk2 : k ≤ 100) : t__law_choose (.int n) (.int (k : Int)) = pure (.int (chz n k)) := by
  have main : ∀ j r : Nat, j + r = k → foldS (fun v (a : Int) => tlb__law_choose_1 (.int n) v (.int a)) ((List.range r).map fun i : Nat => ((j + i : Nat) : Int)) (.int (chz n j * fa j), .int (fa j)) = pure (.int (chz n k * fa k), .int (fa k)) := by
    intro j r
    induction r generalizing j with
    | zero => intro e; simp at e; subst e; rfl
    | succ r ih =>
      intro e
      have el : ((List.range (r + 1)).map fun i : Nat => ((j + i : Nat) : Int)) = (j : Int) :: ((List.range r).map fun i : Nat => ((j + 1 + i : Nat) : Int)) := by
        rw [List.range_succ_eq_map, List.map_cons, List.map_map]
        congr 1
        refine List.map_congr_left fun i _ => ?_
        show ((j + (i + 1) : Nat) : Int) = _
        congr 1; omega
      have e1 : (t + 1) * (k + 2) = (t + 1) * k + (t + 1) * 2 := Nat.mul_add _ _ _
      have e0 : (t + 1) * j ≤ (t + 1) * k := Nat.mul_le_mul_left _ (by omega)
      have hc := chz_size hn j (by omega)
      have hf := fa_z j (by omega)
      have hd : Zk (t + 1) (n - (j : Int)) := by
        unfold Zk at *
        rw [Nat.pow_succ]
        omega
      have hj : Zk 7 ((j : Int) + 1) := show ((j : Int) + 1).natAbs < 2 ^ 7 by omega
      have s1 : tlb__law_choose_1 (.int n) (.int (chz n j * fa j), .int (fa j)) (.int (j : Int)) = pure (.int (chz n (j + 1) * fa (j + 1)), .int (fa (j + 1))) := by
        unfold tlb__law_choose_1
        simp only [sBin_p, pySub_ii, pyAdd_ii, sOp_d, mul_z (hc.mul hf) hd (by omega), mul_z hf hj (by omega), sNil_p, sCons_p, two_p, opt_some, pure_bind]
        have h1 := chz_succ n j
        have h2 : chz n j * fa j * (n - (j : Int)) = chz n (j + 1) * fa (j + 1) := by
          show _ = chz n (j + 1) * (fa j * ((j : Int) + 1))
          rw [Int.mul_right_comm, ← h1, Int.mul_assoc, Int.mul_comm ((j : Int) + 1)]
        rw [h2]
        rfl
      rw [el, foldS_cons, s1, pure_bind, ih (j + 1) (by omega)]
  have m0 := main 0 k (by omega)
  have er : rngTo 0 (k : Int) = some (((List.range k).map fun i : Nat => ((0 + i : Nat) : Int)).map .int) := by
    rw [rng0 (by omega)]
    unfold ints0
    congr 2
    refine List.map_congr_left fun i _ => ?_
    rw [Nat.zero_add]
  rw [chz_zero] at m0
  unfold t__law_choose
  simp only [sNil_p, sCons_p, sTup_p, sSz_2, un2_p, opt_some, pure_bind, sRange1_p, er, foldS_map, un1_p]
  have m1 : foldS (fun v (a : Int) => tlb__law_choose_1 (.int n) v (.int a)) ((List.range k).map fun i : Nat => ((0 + i : Nat) : Int)) (.int 1, .int 1) = _ := m0
  simp only [foldS_map] at m1
  rw [m1]
  simp only [pure_bind, sBin_p]
  rw [fdiv_z (fa_z k hk2) (fa_pos k) (by omega), Int.mul_ediv_cancel _ (by have := fa_pos k; omega)]
  rfl
theorem row_at_step {t N D m : Nat} {n : Int} {l : List Rat} (R : RowN t N D l n) (h100 : l.length ≤ 100) {k : Nat} {c : Rat} (hk : k < l.length) (hc : c ∈ l) {acc : Rat} (ha : Sz ((t + 1) * l.length + 1 + N + m * (D + 2) + 1) (m * (D + 1) + 1) acc) (hm : m < l.length) :
    tlb__law_row_at_1 (.int n) (fr acc) (.int (k : Int), fr c) = pure (fr (acc + (chz n k : Rat) * c)) := by
  have hb1 := R.b1
  have hb2 := R.b2
  have hz := chz_size R.z k (by have := R.l2; omega)
  have e0 : (t + 1) * k ≤ (t + 1) * l.length := Nat.mul_le_mul_left _ (by omega)
  have e1 : (t + 1) * (l.length + 2) = (t + 1) * l.length + (t + 1) * 2 := Nat.mul_add _ _ _
  have e2 : (t + 1) * (k + 2) = (t + 1) * k + (t + 1) * 2 := Nat.mul_add _ _ _
  have e3 : (m + 1) * (D + 2) = m * (D + 2) + (D + 2) := Nat.succ_mul _ _
  have e4 : (m + 1) * (D + 1) = m * (D + 1) + (D + 1) := Nat.succ_mul _ _
  have e6 : (m + 1) * (D + 2) ≤ l.length * (D + 2) := Nat.mul_le_mul_right _ (by omega)
  have e7 : (m + 1) * (D + 1) ≤ l.length * (D + 1) := Nat.mul_le_mul_right _ (by omega)
  have ht : Sz ((t + 1) * l.length + 1 + N) (D + 1) ((chz n k : Rat) * c) := ((Sz.int hz).mul (R.sz c hc)).up (by omega) (by omega)
  unfold tlb__law_row_at_1
  simp only [pure_bind, t__law_choose_eq R.z (show k ≤ 2 ^ t by have := R.l2; omega) (show (t + 1) * (k + 2) ≤ 100000 by omega) (show k ≤ 100 by omega)]
  have hs1 : Sz 400000 4000 ((chz n k : Int) : Rat) := (Sz.int hz).up (by omega) (by omega)
  have hs2 : Sz 400000 4000 c := (R.sz c hc).up (by omega) (by omega)
  simp only [sNil_p, sCons_p, sTup_p, sSz_2, pure_bind, fr_int]
  rw [t__law_by_eq hs1 hs2, pure_bind, t__law_plus_eq (ha.up (by omega) (by omega)) (ht.up (by omega) (by omega))]
  simp
theorem t__law_row_at_eq {t N D : Nat} {n : Int} {l : List Rat} (x : PyData) (hx : x = rowT l ∨ x = rowL l) (R : RowN t N D l n) (h100 : l.length ≤ 100) : t__law_row_at x (.int n) = pure (fr (evR 0 l (n : Rat))) := by
  have main : ∀ (r : List Rat) (k : Nat) (acc : Rat), (∀ c ∈ r, c ∈ l) → k + r.length = l.length → Sz ((t + 1) * l.length + 1 + N + k * (D + 2) + 1) (k * (D + 1) + 1) acc →
      foldS (fun v (p : Rat × Nat) => tlb__law_row_at_1 (.int n) v (.int (p.2 : Nat), fr p.1)) (r.zipIdx k) (fr acc) = pure (fr (acc + evR k r (n : Rat))) := by
    intro r
    induction r with
    | nil => intro k acc _ _ _; simp [evR]; grind
    | cons c r ih =>
      intro k acc hr hk ha
      rw [List.length_cons] at hk
      obtain ⟨_, h2⟩ := LR.row_at_step R (k := k) (c := c) (by omega) (hr c (by simp)) (m := k) ha (by omega)
      have h1 := row_at_step R h100 (k := k) (c := c) (by omega) (hr c (by simp)) (m := k) ha (by omega)
      rw [List.zipIdx_cons, foldS_cons, h1, pure_bind, ih (k + 1) _ (fun d hd => hr d (List.mem_cons_of_mem _ hd)) (by omega) h2, evR, chz_eq]
      congr 2
      grind
  have h0 := main l 0 0 (fun _ h => h) (by omega) (Sz.zero.up (Nat.le_refl _) (by omega))
  have e : (0 : Rat) + evR 0 l (n : Rat) = evR 0 l (n : Rat) := by grind
  rw [e] at h0
  unfold t__law_row_at
  rcases hx with rfl | rfl
  · simp only [sNil_p, sCons_p, sTup_p, sSz_2, pure_bind, sEnum_t, numbered_fr, foldS_map, un2_p, opt_some, fr_zero, h0]
  · simp only [sNil_p, sCons_p, sTup_p, sSz_2, pure_bind, sEnum_l, numbered_fr, foldS_map, un2_p, opt_some, fr_zero, h0]
end LJ
namespace LJ
open PySem L2 DL LR
def dif : List Rat → List Rat
  | a :: b :: r => (b - a) :: dif (b :: r)
  | _ => []
theorem dif_len : ∀ u : List Rat, (dif u).length = u.length - 1
  | [] => rfl
  | [a] => rfl
  | a :: b :: r => by unfold dif; rw [List.length_cons, dif_len (b :: r)]; simp
theorem zip_dif : ∀ u : List Rat, (List.zip u (u.drop 1)).map (fun p => p.2 - p.1) = dif u
  | [] => rfl
  | [a] => rfl
  | a :: b :: r => by
    have := zip_dif (b :: r)
    unfold dif
    rw [← this]
    rfl
theorem coef_dif : ∀ (u : List Rat) (k : Nat), k + 1 < u.length → coef (dif u) k = coef u (k + 1) - coef u k
  | [], k, h => by simp at h
  | [a], k, h => by simp at h
  | a :: b :: r, 0, h => rfl
  | a :: b :: r, k + 1, h => by
    have := coef_dif (b :: r) k (by simpa using h)
    unfold dif
    show coef (dif (b :: r)) k = _
    rw [this]; rfl
def newt : Nat → List Rat → List Rat
  | n + 1, a :: r => a :: newt n (dif (a :: r))
  | _, _ => []
def difN : Nat → List Rat → List Rat
  | 0, u => u
  | j + 1, u => difN j (dif u)
theorem newt_len : ∀ (n : Nat) (u : List Rat), u.length = n → (newt n u).length = n
  | 0, u, h => by cases u <;> first | rfl | cases h
  | n + 1, [], h => by cases h
  | n + 1, a :: r, h => by
    unfold newt
    rw [List.length_cons, newt_len n _ (by rw [dif_len]; simp at h ⊢; omega)]
theorem ev_newt : ∀ (n : Nat) (u : List Rat), u.length = n → ∀ k : Nat, k < n → evR 0 (newt n u) (k : Rat) = coef u k
  | 0, u, h, k, hk => by omega
  | n + 1, [], h, k, hk => by cases h
  | n + 1, a :: r, h, k, hk => by
    have hl : (dif (a :: r)).length = n := by rw [dif_len]; simp at h ⊢; omega
    have ih := ev_newt n (dif (a :: r)) hl
    unfold newt
    induction k with
    | zero =>
      have e0 := ev_zero (newt n (dif (a :: r))) 0
      rw [ev0]
      show a + evR 1 _ (0 : Rat) = a
      rw [e0]; grind
    | succ k ihk =>
      have h1 := ihk (by omega)
      rw [ev0] at h1 ⊢
      have h2 := ev_pascal (newt n (dif (a :: r))) 0 (k : Rat)
      have h3 := ih k (by omega)
      have h4 := coef_dif (a :: r) k (by omega)
      have e : (((k + 1 : Nat) : Nat) : Rat) = (k : Rat) + 1 := by simp
      rw [e]
      rw [show (0 + 1 : Nat) = 1 from rfl] at h2
      rw [h2, h3, h4]
      grind
theorem coef_take_lt {c : List Rat} {k i : Nat} (h : i < k) : coef (c.take k) i = coef c i := by
  unfold coef
  rw [List.getD_eq_getElem?_getD, List.getD_eq_getElem?_getD, List.getElem?_take, if_pos h]
theorem coef_take_ge {c : List Rat} {k i : Nat} (h : k ≤ i) : coef (c.take k) i = 0 := by
  unfold coef
  rw [List.getD_eq_getElem?_getD, List.getElem?_take, if_neg (by omega)]; rfl
theorem ev_take (c : List Rat) (k : Nat) : evR 0 c (k : Rat) = evR 0 (c.take k) (k : Rat) + coef c k := by
  have h1 := ev_less c (c.take k) 0 (k : Rat) (lessR c (c.take k)) (coef_less c (c.take k))
  have h2 := ev_at (n := k) (l := lessR c (c.take k)) fun i hi => by rw [coef_less, coef_take_lt hi]; grind
  rw [coef_less, coef_take_ge (Nat.le_refl k)] at h2
  grind
theorem through_while : ∀ (n f : Nat) (acc u : List Rat), u.length = n → n < f → acc.length + n ≤ 10000 → (∀ j, SzA 400000 4000 (difN j u)) → whileS twc_row_through_1 twb_row_through_2 f (rowL acc, rowL u) = pure (rowL (acc ++ newt n u), rowL [])
  | n, 0, acc, u, _, h, _, _ => by omega
  | 0, f + 1, acc, u, hn, hf, hl, hs => by
    cases u with
    | cons a r => cases hn
    | nil =>
      unfold whileS
      have hc : twc_row_through_1 (rowL acc, rowL []) = pure false := rfl
      rw [hc, pure_bind]
      simp [newt]
  | n + 1, f + 1, acc, u, hn, hf, hl, hs => by
    cases u with
    | nil => cases hn
    | cons a r =>
      unfold whileS
      have hc : twc_row_through_1 (rowL acc, rowL (a :: r)) = pure true := by
        unfold twc_row_through_1
        simp only [sNil_p, sLst_p, sSz_nil, sBin_p, pyNe_l0, sOp_d, sBool_p]
        rfl
      have h0 : pyIx (rowL (a :: r)) (.int 0) = some (.d (fr a)) := ix_frL (k := 0) (by simp)
      have hcut : cutD ((a :: r).map fr) (some 1) none = ((a :: r).drop 1).map fr := by
        have := cut_from (ds := (a :: r).map fr) (k := 1) (by simp)
        rw [List.map_drop]
        exact this
      have hm : mapG (fun p : Rat × Rat => LR.t_fraction_less (fr p.2) (fr p.1)) (List.zip (a :: r) ((a :: r).drop 1)) = pure ((dif (a :: r)).map fr) := by
        rw [← zip_dif]
        refine mapG_enc fr (fun p : Rat × Rat => p.2 - p.1) fun p hp => ?_
        have h1 := (List.of_mem_zip hp).1
        have h2 := List.mem_of_mem_drop (List.of_mem_zip hp).2
        exact t_fraction_less_eq (hs 0 _ h2) (hs 0 _ h1)
      have hb : twb_row_through_2 (rowL acc, rowL (a :: r)) = pure (rowL (acc ++ [a]), rowL (dif (a :: r))) := by
        unfold twb_row_through_2
        simp only [sBin_p, h0, sOp_d, pure_bind]
        rw [show rowL acc = .list (acc.map fr) from rfl, appS_eq (by simp; omega), pure_bind]
        have hcut' : pySl (rowL (a :: r)) (some 1) none = some (.fr (rowL ((a :: r).drop 1))) := by
          show some (RV.fr (.list (cutD ((a :: r).map fr) (some 1) none))) = _
          rw [hcut]
        simp only [partS_i, pure_bind, sSl_p, hcut', sOp_fr, sZip_l, zipped_fr, sCompA_p, mapG_map, un2_p, opt_some, hm]
        rw [sSz_eq _ (by rw [List.length_map, dif_len]; omega), pure_bind]
        simp [rowL]
      rw [hc, pure_bind, if_pos rfl, hb, pure_bind, through_while n f (acc ++ [a]) (dif (a :: r)) (by rw [dif_len]; simp at hn ⊢; omega) (by omega) (by simp; omega) (fun j => hs (j + 1))]
      rw [List.append_assoc]; rfl
theorem t_row_through_eq {u : List Rat} (x : PyData) (hx : x = rowT u ∨ x = rowL u) (h : u.length ≤ 10000) (hs : ∀ j, SzA 400000 4000 (difN j u)) : LR.t_row_through x = pure (rowT (trim (newt u.length u))) := by
  have hw := through_while u.length fuel_row_through [] u rfl (by unfold fuel_row_through; omega) (by simp; omega) hs
  have hr := t_row_of_eq (l := newt u.length u) (by rw [newt_len _ _ rfl]; omega)
  have e : pyListOf [x] = some (.fr (rowL u)) := by rcases hx with rfl | rfl <;> rfl
  unfold LR.t_row_through
  simp only [sNil_p, sCons_p, sLst_p, sSz_nil, pure_bind, sCallB_p, e, sOp_fr]
  have hw' : whileS twc_row_through_1 twb_row_through_2 fuel_row_through (.list [], rowL u) = _ := hw
  rw [hw', pure_bind]
  exact hr
end LJ
namespace LJ
open PySem L2 DL LR
mutual
/-- no int beyond forty figures, nothing wider than twenty -/
def sml : PyData → Bool
  | .int i => decide (i.natAbs < 10 ^ 40)
  | .tuple ds => decide (ds.length ≤ 20) && smlA ds
  | .list ds => decide (ds.length ≤ 20) && smlA ds
  | _ => true
def smlA : List PyData → Bool
  | [] => true
  | d :: ds => sml d && smlA ds
end
theorem smlA_iff : ∀ ds : List PyData, smlA ds = true ↔ ∀ d ∈ ds, sml d = true
  | [] => by simp [smlA]
  | d :: ds => by
    unfold smlA
    rw [Bool.and_eq_true, smlA_iff ds]
    simp
theorem sml_T {ds : List PyData} : sml (.tuple ds) = true ↔ ds.length ≤ 20 ∧ ∀ d ∈ ds, sml d = true := by
  rw [sml, Bool.and_eq_true, smlA_iff, decide_eq_true_eq]
theorem sml_L {ds : List PyData} : sml (.list ds) = true ↔ ds.length ≤ 20 ∧ ∀ d ∈ ds, sml d = true := by
  rw [sml, Bool.and_eq_true, smlA_iff, decide_eq_true_eq]
theorem sml_I {i : Int} : sml (.int i) = true ↔ i.natAbs < 10 ^ 40 := by unfold sml; rw [decide_eq_true_eq]
theorem z133 {i : Int} (h : i.natAbs < 10 ^ 40) : Zk 133 i := Nat.lt_of_lt_of_le h (by decide)
def isI : PyData → Bool
  | .int _ => true
  | _ => false
theorem isI_iff {x : PyData} (h : isI x = true) : ∃ i, x = .int i := by cases x <;> first | exact ⟨_, rfl⟩ | cases h
theorem t_is_integer_eq (x : PyData) : LR.t_is_integer x = pure (.bool (isI x)) := by
  cases x <;> simp [LR.t_is_integer, isI]
theorem t__law_is_int_eq (x : PyData) : t__law_is_int x = pure (.bool (isI x)) := t_is_integer_eq x
def isF2 (a b : PyData) : Bool := match a, b with
  | .int p, .int q => decide (0 < q) && decide (Nat.gcd p.natAbs q.natAbs = 1)
  | _, _ => false
def isFr (x : PyData) : Bool := match x with
  | .tuple ds => (match ds with
    | [a, b] => isF2 a b
    | _ => false)
  | _ => false
theorem isF2_of {a b : PyData} (h : isF2 a b = true) : ∃ r : Rat, a = .int r.num ∧ b = .int (r.den : Nat) := by
  have ha : ∃ p, a = .int p := by cases a <;> first | exact ⟨_, rfl⟩ | (cases b <;> cases h)
  obtain ⟨p, rfl⟩ := ha
  have hb : ∃ q, b = .int q := by cases b <;> first | exact ⟨_, rfl⟩ | cases h
  obtain ⟨q, rfl⟩ := hb
  have h' : (decide (0 < q) && decide (Nat.gcd p.natAbs q.natAbs = 1)) = true := h
  rw [Bool.and_eq_true, decide_eq_true_eq, decide_eq_true_eq] at h'
  obtain ⟨d, rfl⟩ := Int.eq_ofNat_of_zero_le (show 0 ≤ q by omega)
  refine ⟨⟨p, d, by omega, ?_⟩, rfl, rfl⟩
  have := h'.2
  rwa [Int.natAbs_natCast] at this
theorem isFr_of {x : PyData} (h : isFr x = true) : ∃ r : Rat, x = fr r := by
  cases x with
  | tuple ds =>
    match ds, h with
    | [], h => cases h
    | [_], h => cases h
    | [a, b], h =>
      obtain ⟨r, e1, e2⟩ := isF2_of (show isF2 a b = true from h)
      exact ⟨r, by unfold fr; rw [e1, e2]⟩
    | _ :: _ :: _ :: _, h => cases h
  | _ => cases h
theorem not_tup {x : PyData} (h : ∀ ds, x ≠ .tuple ds) : isiD "tuple" x = false := by
  cases x with
  | tuple ds => exact absurd rfl (h ds)
  | _ => simp
theorem tup_tup (ds : List PyData) : isiD "tuple" (.tuple ds) = true := by simp
theorem isFr_not {x : PyData} (h : ∀ ds, x ≠ .tuple ds) : isFr x = false := by
  cases x with
  | tuple ds => exact absurd rfl (h ds)
  | _ => rfl
theorem isFr_len {ds : List PyData} (h : ds.length ≠ 2) : isFr (.tuple ds) = false := by
  match ds, h with
  | [], _ => rfl
  | [_], _ => rfl
  | [a, b], h => exact absurd rfl h
  | _ :: _ :: _ :: _, _ => rfl
theorem isF2_ints {p q : Int} : isF2 (.int p) (.int q) = (decide (0 < q) && decide (Nat.gcd p.natAbs q.natAbs = 1)) := rfl
theorem isF2_l {a b : PyData} (h : isI a = false) : isF2 a b = false := by cases a <;> cases b <;> first | rfl | cases h
theorem isF2_r {a b : PyData} (h : isI b = false) : isF2 a b = false := by cases a <;> cases b <;> first | rfl | cases h
theorem two_of {ds : List PyData} (h : ds.length = 2) : ∃ a b, ds = [a, b] := by
  match ds, h with
  | [a, b], _ => exact ⟨a, b, rfl⟩
theorem t_is_fraction_eq (x : PyData) : LR.t_is_fraction x = pure (.bool (isFr x)) := by
  unfold LR.t_is_fraction
  by_cases ht : ∃ ds, x = .tuple ds
  · obtain ⟨ds, rfl⟩ := ht
    simp only [sIsi_p, tup_tup, sBool_p, sNotT_p, Bool.not_true, sOrT_p, Bool.false_eq_true, if_false, sNil_p, sCons_p, sCallB_p, len_t, sOp_d, sBin_p, pyNe_ii]
    by_cases h2 : ds.length = 2
    · obtain ⟨a, b, rfl⟩ := two_of h2
      have hm : mapG (fun q1 => LR.t_is_integer q1) [a, b] = pure ([isI a, isI b].map .bool) := mapG_enc PyData.bool isI fun x _ => t_is_integer_eq x
      have hall : pyAll [.list ([isI a, isI b].map .bool)] = some (.d (.bool (isI a && isI b))) := by
        have := all_m (fun x : PyData => isI x) [a, b]
        simpa using this
      simp only [List.length_cons, List.length_nil, show ¬ (((0 + 1 + 1 : Nat) : Int) ≠ 2) by decide, decide_false, Bool.false_eq_true, if_false, sItems_t, sCompA_p, un1_p, opt_some, pure_bind, hm]
      rw [sSz_eq _ (by simp)]
      simp only [sCons_p, sCallB_p, hall, sOp_d, sBool_p, sNotT_p, sIf_p]
      cases ha : isI a with
      | false => simp only [Bool.false_and, Bool.not_false, if_true]; rw [show isFr (.tuple [a, b]) = isF2 a b from rfl, isF2_l ha]
      | true =>
        cases hb : isI b with
        | false => simp only [Bool.and_false, Bool.not_false, if_true]; rw [show isFr (.tuple [a, b]) = isF2 a b from rfl, isF2_r hb]
        | true =>
          obtain ⟨p, rfl⟩ := isI_iff ha
          obtain ⟨q, rfl⟩ := isI_iff hb
          simp only [Bool.and_self, Bool.not_true, Bool.false_eq_true, if_false, ix0, ix1, sOp_d, sBin_p, pyGt_ii, sCons_p, sCallB_p, gcd_int, pyEq_ii, sAndV_p]
          rw [show isFr (.tuple [.int p, .int q]) = (decide (0 < q) && decide (Nat.gcd p.natAbs q.natAbs = 1)) from rfl]
          have e : decide (((Nat.gcd p.natAbs q.natAbs : Nat) : Int) = 1) = decide (Nat.gcd p.natAbs q.natAbs = 1) := by congr 1; exact propext (by omega)
          rw [e]
          cases decide (0 < q) <;> rfl
    · have : ((ds.length : Nat) : Int) ≠ 2 := by omega
      simp only [decide_eq_true this, sBool_p, if_true, sIf_p, isFr_len h2]
  · have hn : ∀ ds, x ≠ .tuple ds := fun ds e => ht ⟨ds, e⟩
    simp only [sIsi_p, not_tup hn, sBool_p, sNotT_p, Bool.not_false, sOrT_p, if_true, sIf_p, isFr_not hn]
theorem t__law_is_fraction_eq (x : PyData) (hs : sml x = true) : t__law_is_fraction x = pure (.bool (isFr x)) := by
  unfold t__law_is_fraction
  by_cases ht : ∃ ds, x = .tuple ds
  · obtain ⟨ds, rfl⟩ := ht
    simp only [sIsi_p, tup_tup, sBool_p, sNotT_p, Bool.not_true, sOrT_p, Bool.false_eq_true, if_false, sNil_p, sCons_p, sCallB_p, len_t, sOp_d, sBin_p, pyNe_ii]
    by_cases h2 : ds.length = 2
    · obtain ⟨a, b, rfl⟩ := two_of h2
      have hm : compG (fun q1 => (sNotT (sBool (t__law_is_int q1))) >>= fun c => if c then pure (some q1) else pure none) [a, b] = pure (([a, b].filter fun x => !isI x).map id) := compG_eq (fun x => !isI x) id fun x _ => by
        rw [t__law_is_int_eq, sBool_p, sNotT_p, pure_bind]; rfl
      simp only [List.length_cons, List.length_nil, show ¬ (((0 + 1 + 1 : Nat) : Int) ≠ 2) by decide, decide_false, Bool.false_eq_true, if_false, sItems_t, sComp_p, un1_p, opt_some, pure_bind, hm]
      rw [sSz_eq _ (by rw [List.length_map]; exact Nat.le_trans (List.length_filter_le _ _) (by simp))]
      simp only [sLst_p, sSz_nil, sBin_p, pyNe_l0, sOp_d, sBool_p, sNotT_p, sIf_p]
      cases ha : isI a with
      | false => simp [ha]; rw [show isFr (.tuple [a, b]) = isF2 a b from rfl, isF2_l ha]
      | true =>
        cases hb : isI b with
        | false => simp [ha, hb]; rw [show isFr (.tuple [a, b]) = isF2 a b from rfl, isF2_r hb]
        | true =>
          obtain ⟨p, rfl⟩ := isI_iff ha
          obtain ⟨q, rfl⟩ := isI_iff hb
          obtain ⟨_, hs2⟩ := sml_T.mp hs
          have zp := z133 (sml_I.mp (hs2 (.int p) (by simp)))
          have zq := z133 (sml_I.mp (hs2 (.int q) (by simp)))
          rw [show isFr (.tuple [.int p, .int q]) = (decide (0 < q) && decide (Nat.gcd p.natAbs q.natAbs = 1)) from rfl]
          have hf : (List.map id (List.filter (fun x => !isI x) [PyData.int p, PyData.int q])).isEmpty = true := rfl
          simp only [hf, Bool.not_true, Bool.false_eq_true, if_false, ix0, ix1, sOp_d, sBin_p, pyGt_ii, pure_bind]
          by_cases hq : 0 < q
          · have hcm : Cm 1 (.tuple [.int p, .int q]) := Cm.tup fun d hd => by
              simp only [List.mem_cons, List.not_mem_nil, or_false] at hd
              rcases hd with rfl | rfl <;> exact Cm.int _
            have he : pyEq (fr (Rat.divInt p q)) (.tuple [.int p, .int q]) = some (.d (.bool (decide (Nat.gcd p.natAbs q.natAbs = 1)))) := eq_cmp (fr_cm _) hcm (by
              rw [decide_eq_true_eq]
              constructor
              · intro h
                obtain ⟨d, rfl⟩ := Int.eq_ofNat_of_zero_le (show 0 ≤ q by omega)
                rw [Int.natAbs_natCast] at h
                have e := Rat.num_divInt_den (⟨p, d, by omega, h⟩ : Rat)
                have e' : Rat.divInt p (d : Int) = (⟨p, d, by omega, h⟩ : Rat) := e
                rw [e']; rfl
              · intro h
                unfold fr at h
                injection h with h
                injection h with h1 h2
                injection h1 with h1
                injection h2 with h2 _
                injection h2 with h2
                have a1 : p.natAbs = (Rat.divInt p q).num.natAbs := congrArg Int.natAbs h1.symm
                have a2 : q.natAbs = (Rat.divInt p q).den := by have := congrArg Int.natAbs h2; rw [Int.natAbs_natCast] at this; exact this.symm
                rw [a1, a2]
                exact (Rat.divInt p q).reduced)
            simp only [hq, decide_true, t__law_fraction_eq hq (zp.up (by omega)) (zq.up (by omega)), sBin_p, he, sOp_d, sAndV_p, if_true, Bool.true_and]
          · simp only [hq, decide_false, sAndV_p, Bool.false_eq_true, if_false, Bool.false_and]
    · have : ((ds.length : Nat) : Int) ≠ 2 := by omega
      simp only [decide_eq_true this, sBool_p, if_true, sIf_p, isFr_len h2]
  · have hn : ∀ ds, x ≠ .tuple ds := fun ds e => ht ⟨ds, e⟩
    simp only [sIsi_p, not_tup hn, sBool_p, sNotT_p, Bool.not_false, sOrT_p, if_true, sIf_p, isFr_not hn]
end LJ
namespace LJ
open PySem L2 DL LR
theorem ix_lastT {l : List Rat} {a : Rat} : pyIx (rowT (l ++ [a])) (.int (-1)) = some (.d (fr a)) := by
  have : atI ((l ++ [a]).map fr) (-1) = some (fr a) := by
    unfold atI ixN
    rw [List.map_append, List.length_append]
    simp
    rw [if_pos (by omega)]
    simp
    have : ((-1 : Int) + ((l.length : Int) + 1)).toNat = l.length := by omega
    rw [this]
    simp
  simp only [pyIx, this, Option.map_some]
theorem tail_eq (l : List Rat) : sOrV (sBin pyEq (pure (rowT l)) (pure (.tuple []))) (sBin pyNe (sBin pyIx (pure (rowT l)) (pure (.int (-1)))) (pure (fr 0))) = pure (.bool (decide (trim l = l))) := by
  rcases List.eq_nil_or_concat l with rfl | ⟨r, a, rfl⟩
  · rfl
  · rw [List.concat_eq_append]
    have he := eq_rowT (r ++ [a]) []
    have h0 : (r ++ [a] : List Rat) ≠ [] := by simp
    rw [decide_eq_false h0] at he
    have he' : pyEq (rowT (r ++ [a])) (.tuple []) = some (.d (.bool false)) := he
    simp only [sBin_p, he', sOp_d, sOrV_p, Bool.false_eq_true, if_false, ix_lastT, ne_fr]
    by_cases ha : a = 0
    · subst ha
      have : trim (r ++ [0]) ≠ r ++ [0] := fun e => by
        rw [trim_snoc_zero] at e
        have h1 := trim_le r
        rw [e] at h1
        simp at h1
        omega
      rw [decide_eq_false this, decide_eq_true rfl]; rfl
    · rw [trim_snoc _ _ ha, decide_eq_true rfl, decide_eq_false ha]; rfl
theorem all_fr : ∀ {ds : List PyData}, ds.all isFr = true → ∃ l : List Rat, ds = l.map fr
  | [], _ => ⟨[], rfl⟩
  | d :: ds, h => by
    rw [List.all_cons, Bool.and_eq_true] at h
    obtain ⟨r, rfl⟩ := isFr_of h.1
    obtain ⟨l, rfl⟩ := all_fr h.2
    exact ⟨r :: l, rfl⟩
theorem filt_all (ds : List PyData) : (ds.filter fun x => !isFr x).isEmpty = ds.all isFr := by
  induction ds with
  | nil => rfl
  | cons d ds ih =>
    rw [List.filter_cons, List.all_cons, ← ih]
    cases isFr d <;> simp
theorem row_cases (x : PyData) (hs : sml x = true) : (∃ l : List Rat, x = rowT l ∧ Trim l ∧ LR.t_is_row x = pure (.bool true) ∧ t__law_is_row x = pure (.bool true)) ∨ (LR.t_is_row x = pure (.bool false) ∧ t__law_is_row x = pure (.bool false)) := by
  by_cases ht : ∃ ds, x = .tuple ds
  · obtain ⟨ds, rfl⟩ := ht
    obtain ⟨hl, hd⟩ := sml_T.mp hs
    have hm : mapG (fun q1 => LR.t_is_fraction q1) ds = pure (ds.map fun x => PyData.bool (isFr x)) := mapG_eq (fun x => PyData.bool (isFr x)) fun x _ => t_is_fraction_eq x
    have hc : compG (fun q1 => (sNotT (sBool (t__law_is_fraction q1))) >>= fun c => if c then pure (some q1) else pure none) ds = pure ((ds.filter fun x => !isFr x).map id) := compG_eq (fun x => !isFr x) id fun x hx => by
      rw [t__law_is_fraction_eq x (hd x hx), sBool_p, sNotT_p, pure_bind]; rfl
    have e1 : LR.t_is_row (.tuple ds) = if ds.all isFr then sOrV (sBin pyEq (pure (.tuple ds)) (pure (.tuple []))) (sBin pyNe (sBin pyIx (pure (.tuple ds)) (pure (.int (-1)))) (pure (fr 0))) else pure (.bool false) := by
      unfold LR.t_is_row
      simp only [sIsi_p, tup_tup, sBool_p, sNotT_p, Bool.not_true, sOrT_p, Bool.false_eq_true, if_false, sItems_t, sCompA_p, un1_p, opt_some, pure_bind, hm]
      rw [sSz_eq _ (by rw [List.length_map]; omega)]
      simp only [sNil_p, sCons_p, sCallB_p, all_m, sOp_d, sBool_p, sNotT_p, sIf_p, sTup_p, sSz_nil, sUn_p, pyNeg_i, fr_zero]
      cases ds.all isFr <;> simp
    have e2 : t__law_is_row (.tuple ds) = if ds.all isFr then sOrV (sBin pyEq (pure (.tuple ds)) (pure (.tuple []))) (sBin pyNe (sBin pyIx (pure (.tuple ds)) (pure (.int (-1)))) (pure (fr 0))) else pure (.bool false) := by
      unfold t__law_is_row
      simp only [sIsi_p, tup_tup, sBool_p, sNotT_p, Bool.not_true, sOrT_p, Bool.false_eq_true, if_false, sItems_t, sComp_p, un1_p, opt_some, pure_bind, hc]
      rw [sSz_eq _ (by rw [List.length_map]; exact Nat.le_trans (List.length_filter_le _ _) (by omega))]
      simp only [sNil_p, sLst_p, sSz_nil, sBin_p, pyNe_l0, List.map_id, filt_all, sOp_d, sBool_p, sIf_p, sCons_p, sTup_p, sSz_2, sUn_p, pyNeg_i, fr_zero]
      cases ds.all isFr <;> simp
    rw [e1, e2]
    cases q : ds.all isFr with
    | false => exact .inr ⟨rfl, rfl⟩
    | true =>
      obtain ⟨l, rfl⟩ := all_fr q
      rw [if_pos rfl, tail_eq l]
      by_cases h : trim l = l
      · exact .inl ⟨l, rfl, h, by rw [decide_eq_true h], by rw [decide_eq_true h]⟩
      · exact .inr ⟨by rw [decide_eq_false h], by rw [decide_eq_false h]⟩
  · have hn : ∀ ds, x ≠ .tuple ds := fun ds e => ht ⟨ds, e⟩
    refine .inr ⟨?_, ?_⟩
    · unfold LR.t_is_row
      simp only [sIsi_p, not_tup hn, sBool_p, sNotT_p, Bool.not_false, sOrT_p, if_true, sIf_p]
    · unfold t__law_is_row
      simp only [sIsi_p, not_tup hn, sBool_p, sNotT_p, Bool.not_false, sOrT_p, if_true, sIf_p]
theorem sml_row {l : List Rat} (h : sml (rowT l) = true) : l.length ≤ 20 ∧ SzA 134 134 l := by
  obtain ⟨h1, h2⟩ := sml_T.mp h
  rw [List.length_map] at h1
  refine ⟨h1, fun c hc => ?_⟩
  obtain ⟨_, h3⟩ := sml_T.mp (h2 (fr c) (List.mem_map_of_mem hc))
  have a := z133 (sml_I.mp (h3 (.int c.num) (by simp)))
  have b := z133 (sml_I.mp (h3 (.int (c.den : Nat)) (by simp)))
  refine ⟨a.up (by omega), ?_⟩
  have b' : ((c.den : Int)).natAbs < 2 ^ 134 := b.up (b := 134) (by omega)
  rwa [Int.natAbs_natCast] at b'
def faultD (u l : List Rat) : PyData := match u.zipIdx.find? (fun p => !decide (evR 0 l ((p.2 : Nat) : Rat) = p.1)) with
  | some p => .tuple [.str "at", .int (p.2 : Nat), fr p.1]
  | none => if u.length < l.length then .tuple [.str "longer", .int ((trim (newt u.length u)).length : Nat)] else .none
theorem zip_mem {u : List Rat} {p : Rat × Nat} (h : p ∈ u.zipIdx) : p.2 < u.length := by
  have := List.mem_zipIdx_iff_getElem?.mp h
  exact (List.getElem?_eq_some_iff.mp this).1
theorem row_n {l : List Rat} (hl : l.length ≤ 20) (hs : SzA 134 134 l) {k : Nat} (hk : k < 10) : RowN 5 134 134 l (k : Int) := by
  refine ⟨hs, show ((k : Int)).natAbs < 2 ^ 5 by omega, by omega, by omega, by omega, by omega⟩
theorem t_judge_row_eq {u l : List Rat} (q : PyData) (hq : q = rowT u ∨ q = rowL u) (hu : u.length ≤ 8) (ht : Trim l) (hl : l.length ≤ 20) (hs : SzA 134 134 l) (hd : ∀ j, SzA 400000 4000 (difN j u)) (hr : LR.t_is_row (rowT l) = pure (.bool true)) : LR.t_judge_row q (rowT l) = pure (faultD u l) := by
  have hF : forO (κ := Empty) (fun (v : Unit) (p : Rat × Nat) => tlb_judge_row_1 (rowT l) v (.int (p.2 : Nat), fr p.1)) u.zipIdx () = _ := forO_find (fun p : Rat × Nat => !decide (evR 0 l ((p.2 : Nat) : Rat) = p.1)) (fun p : Rat × Nat => .tuple [.str "at", .int (p.2 : Nat), fr p.1]) fun p hp => by
    have hk := zip_mem hp
    have ra := t_row_at_eq (rowT l) (.inl rfl) (row_n hl hs (k := p.2) (by omega))
    unfold tlb_judge_row_1
    simp only [pure_bind, ra, sBin_p, ne_fr, sOp_d, sBool_p, sIf_p, sNil_p, sCons_p, sTup_p, sSz_3]
    rfl
  have hE : sEnum (pure q) = pure (u.zipIdx.map fun p => .tuple [.int (p.2 : Nat), fr p.1]) := by
    rcases hq with rfl | rfl
    · rw [show rowT u = .tuple (u.map fr) from rfl, sEnum_t, numbered_fr]
    · rw [show rowL u = .list (u.map fr) from rfl, sEnum_l, numbered_fr]
  have hL : DL.pyLen [q] = some (.d (.int (u.length : Nat))) := by rcases hq with rfl | rfl <;> simp
  have hth := t_row_through_eq q hq (by omega) hd
  unfold LR.t_judge_row faultD
  simp only [pure_bind, hr, sBool_p, sNotT_p, Bool.not_true, sIf_p, Bool.false_eq_true, if_false, hE, forO_map, un2_p, opt_some, hF]
  cases u.zipIdx.find? (fun p => !decide (evR 0 l ((p.2 : Nat) : Rat) = p.1)) with
  | some p => rfl
  | none =>
    simp only [outR_nxt, sNil_p, sCons_p, sCallB_p, len_t, List.length_map, hL, sOp_d, sBin_p, pyGt_ii, sBool_p, sIf_p, hth, sTup_p, sSz_2, decide_eq_true_eq]
    by_cases h : u.length < l.length
    · rw [if_pos h, if_pos (by omega)]
    · rw [if_neg h, if_neg (by omega)]
theorem fault_fold {u c : List Rat} (hc : c = newt u.length u) (hs : SzA 300 100 c) (hsu : SzA 400000 4000 u) (hu : u.length ≤ 8) : ∀ (r : List Rat) (k : Nat), u.drop k = r → k ≤ u.length → foldS (fun v (p : Rat × Nat) => tlb__law_fault_2 v (.int (p.2 : Nat), fr p.1)) (r.zipIdx k) (rowL (c.take k)) = pure (rowL c)
  | [], k, h, hk => by
    have : u.length ≤ k := by
      have := congrArg List.length h
      rw [List.length_drop] at this
      simp at this
      omega
    have hcl : c.length = u.length := by rw [hc, newt_len _ _ rfl]
    rw [List.zipIdx_nil, foldS_nil, List.take_of_length_le (by omega)]
  | a :: r, k, h, hk => by
    have hlt : k < u.length := by
      have := congrArg List.length h
      rw [List.length_drop] at this
      simp at this
      omega
    have hcl : c.length = u.length := by rw [hc, newt_len _ _ rfl]
    have hd := drop_cons_coef hlt
    rw [h] at hd
    injection hd with h1 h2
    have hev := ev_newt u.length u rfl k hlt
    rw [← hc] at hev
    have htk := ev_take c k
    have hcoef : coef u k - evR 0 (c.take k) (k : Rat) = coef c k := by grind
    have R : RowN 3 300 100 (c.take k) (k : Int) := by
      have hl : (c.take k).length ≤ 8 := by rw [List.length_take]; omega
      exact ⟨fun x hx => hs x (List.mem_of_mem_take hx), show ((k : Int)).natAbs < 2 ^ 3 by omega, by omega, by omega, by omega, by omega⟩
    have hl : (c.take k).length ≤ 8 := by rw [List.length_take]; omega
    have ra := t__law_row_at_eq (rowL (c.take k)) (.inr rfl) R (by omega)
    have sz := sz_ev R (by omega)
    have hno : ∀ r : Rat, noLstS (fr r) = pure (fr r) := fun r => rfl
    have hm := t__law_minus_eq (a := a) (b := evR 0 (c.take k) (k : Rat)) (by rw [h1]; exact hsu.coef (by omega) k) (sz.up (by omega) (by omega))
    rw [h1, hcoef, ← h1] at hm
    have st : tlb__law_fault_2 (rowL (c.take k)) (.int (k : Nat), fr a) = pure (rowL (c.take (k + 1))) := by
      unfold tlb__law_fault_2
      simp only [pure_bind, ra, hno]
      rw [show (((k : Nat) : Int) : Rat) = (k : Rat) from rfl, hm, pure_bind, show rowL (c.take k) = .list ((c.take k).map fr) from rfl, appS_eq (by simp; omega), pure_bind]
      have this : coef c k = c[k]'(by omega) := by unfold coef; rw [List.getD_eq_getElem?_getD, List.getElem?_eq_getElem (by omega)]; rfl
      have et : c.take (k + 1) = c.take k ++ [coef c k] := by rw [List.take_succ_eq_append_getElem (by omega), this]
      rw [et]
      show _ = pure (PyData.list ((c.take k ++ [coef c k]).map fr))
      rw [List.map_append]
      rfl
    rw [List.zipIdx_cons, foldS_cons, st, pure_bind]
    exact fault_fold hc hs hsu hu r (k + 1) h2.symm (by omega)
theorem t__law_fault_eq {u l : List Rat} (hu : u.length ≤ 8) (ht : Trim l) (hl : l.length ≤ 20) (hs : SzA 134 134 l) (hsu : SzA 400000 4000 u) (hsc : SzA 300 100 (newt u.length u)) (hr : t__law_is_row (rowT l) = pure (.bool true)) : t__law_fault (rowL u) (rowT l) = pure (faultD u l) := by
  have hF : forO (κ := Empty) (fun (v : Unit) (p : Rat × Nat) => tlb__law_fault_1 (rowT l) v (.int (p.2 : Nat), fr p.1)) u.zipIdx () = _ := forO_find (fun p : Rat × Nat => !decide (evR 0 l ((p.2 : Nat) : Rat) = p.1)) (fun p : Rat × Nat => .tuple [.str "at", .int (p.2 : Nat), fr p.1]) fun p hp => by
    have hk := zip_mem hp
    have ra := t__law_row_at_eq (rowT l) (.inl rfl) (row_n hl hs (k := p.2) (by omega)) (by omega)
    unfold tlb__law_fault_1
    simp only [pure_bind, ra, sBin_p, ne_fr, sOp_d, sBool_p, sIf_p, sNil_p, sCons_p, sTup_p, sSz_3]
    rfl
  have hfold := fault_fold rfl hsc hsu hu u 0 rfl (by omega)
  have htr : t__law_trimmed (rowL (newt u.length u)) = pure (rowT (trim (newt u.length u))) := by rw [b_trimmed]; exact t__law_trimmed_eq (rowL (newt u.length u)) (.inr rfl) (by rw [newt_len _ _ rfl]; omega)
  unfold t__law_fault faultD
  simp only [pure_bind, hr, sBool_p, sNotT_p, Bool.not_true, sIf_p, Bool.false_eq_true, if_false, sEnum_l, numbered_fr, forO_map, foldS_map, un2_p, opt_some, hF]
  cases u.zipIdx.find? (fun p => !decide (evR 0 l ((p.2 : Nat) : Rat) = p.1)) with
  | some p => rfl
  | none =>
    have hfold' : foldS (fun v (p : Rat × Nat) => tlb__law_fault_2 v (.int (p.2 : Nat), fr p.1)) u.zipIdx (.list []) = _ := hfold
    simp only [outR_nxt, sNil_p, sLst_p, sSz_nil, pure_bind, hfold', sCons_p, sCallB_p, len_t, len_l, List.length_map, sOp_d, sBin_p, pyGt_ii, sBool_p, sIf_p, htr, sTup_p, sSz_2, decide_eq_true_eq]
    by_cases h : u.length < l.length
    · rw [if_pos h, if_pos (by omega)]
    · rw [if_neg h, if_neg (by omega)]
end LJ
namespace LJ
open PySem L2 DL LR
/-! products of rows -/
def sumTo (f : Nat → Rat) : Nat → Rat
  | 0 => 0
  | n + 1 => sumTo f n + f n
theorem sumTo_congr {f g : Nat → Rat} : ∀ n : Nat, (∀ m, m < n → f m = g m) → sumTo f n = sumTo g n
  | 0, _ => rfl
  | n + 1, h => by
    unfold sumTo
    rw [sumTo_congr n fun m hm => h m (by omega), h n (by omega)]
theorem sumTo_mul (c : Rat) (f : Nat → Rat) : ∀ n : Nat, sumTo (fun m => c * f m) n = c * sumTo f n
  | 0 => by unfold sumTo; grind
  | n + 1 => by unfold sumTo; rw [sumTo_mul c f n]; grind
theorem Qr_up : ∀ (i : Nat) (y : Rat), Qr i y * (y + 1) = Qr i (y + 1) * (y + 1 - (i : Rat))
  | 0, y => by
    have : Qr 0 y = 1 := rfl
    have h2 : Qr 0 (y + 1) = 1 := rfl
    rw [this, h2]; simp; grind
  | i + 1, y => by
    have h1 := Qr_succ i y
    have h2 := Qr_succ i (y + 1)
    have h3 := Qr_up i y
    have h4 := k1_ne i
    have e : (((i + 1 : Nat) : Nat) : Rat) = (i : Rat) + 1 := by simp
    rw [e]
    have h5 : (Qr (i + 1) y * (y + 1)) * ((i : Rat) + 1) = (Qr (i + 1) (y + 1) * (y + 1 - ((i : Rat) + 1))) * ((i : Rat) + 1) := by grind
    grind
def dco (i j m : Nat) : Rat := Qr i ((i + m : Nat) : Rat) * Qr (j - m) (i : Rat)
theorem cast_add' (a b : Nat) : ((a + b : Nat) : Rat) = (a : Rat) + (b : Rat) := by simp
theorem dco_zero (i j : Nat) : ((j : Rat) + 1) * dco i (j + 1) 0 = dco i j 0 * ((i : Rat) - (j : Rat)) := by
  unfold dco
  have := Qr_succ j (i : Rat)
  simp only [Nat.sub_zero, Nat.add_zero]
  grind
theorem dco_mid (i j m : Nat) (h : m + 1 ≤ j) : ((j : Rat) + 1) * dco i (j + 1) (m + 1) = dco i j m * (((i + m : Nat) : Rat) + 1) + dco i j (m + 1) * (((i + (m + 1) : Nat) : Rat) - (j : Rat)) := by
  unfold dco
  obtain ⟨r, rfl⟩ : ∃ r, j = m + 1 + r := ⟨j - (m + 1), by omega⟩
  rw [show m + 1 + r + 1 - (m + 1) = r + 1 by omega, show m + 1 + r - m = r + 1 by omega, show m + 1 + r - (m + 1) = r by omega]
  have h1 := Qr_up i ((i + m : Nat) : Rat)
  have h2 := Qr_succ r (i : Rat)
  have e1 : ((i + (m + 1) : Nat) : Rat) = ((i + m : Nat) : Rat) + 1 := by simp; grind
  have e2 : ((m + 1 + r : Nat) : Rat) = (m : Rat) + 1 + (r : Rat) := by simp
  have e3 : ((i + m : Nat) : Rat) = (i : Rat) + (m : Rat) := by simp
  rw [e1, e2]
  rw [e3] at h1 ⊢
  grind
theorem dco_top (i j : Nat) : ((j : Rat) + 1) * dco i (j + 1) (j + 1) = dco i j j * (((i + j : Nat) : Rat) + 1) := by
  unfold dco
  rw [Nat.sub_self, Nat.sub_self]
  have h0 : ∀ y : Rat, Qr 0 y = 1 := fun _ => rfl
  rw [h0]
  have h1 := Qr_up i ((i + j : Nat) : Rat)
  have e1 : ((i + (j + 1) : Nat) : Rat) = ((i + j : Nat) : Rat) + 1 := by simp; grind
  have e3 : ((i + j : Nat) : Rat) = (i : Rat) + (j : Rat) := by simp
  rw [e1]
  rw [e3] at h1 ⊢
  grind
theorem Qr_mul (i : Nat) (x : Rat) : ∀ j : Nat, Qr i x * Qr j x = sumTo (fun m => dco i j m * Qr (i + m) x) (j + 1)
  | 0 => by
    unfold sumTo sumTo dco
    have h0 : ∀ y : Rat, Qr 0 y = 1 := fun _ => rfl
    rw [Nat.add_zero, Q_same, h0, h0]; grind
  | j + 1 => by
    have ih := Qr_mul i x j
    have hs := Qr_succ j x
    have hk := k1_ne j
    have stp : ∀ m : Nat, Qr (i + m) x * (x - (j : Rat)) = (((i + m : Nat) : Rat) + 1) * Qr (i + m + 1) x + (((i + m : Nat) : Rat) - (j : Rat)) * Qr (i + m) x := fun m => by
      have := Qr_succ (i + m) x
      grind
    have tel : ∀ n : Nat, n ≤ j → sumTo (fun m => ((j : Rat) + 1) * dco i (j + 1) m * Qr (i + m) x) (n + 1) + dco i j n * (((i + n : Nat) : Rat) + 1) * Qr (i + n + 1) x = sumTo (fun m => dco i j m * Qr (i + m) x * (x - (j : Rat))) (n + 1) := by
      intro n
      induction n with
      | zero =>
        intro _
        have h1 := stp 0
        have h2 := dco_zero i j
        unfold sumTo sumTo
        rw [h2]
        have e : ((i + 0 : Nat) : Rat) = (i : Rat) := rfl
        rw [e] at h1 ⊢
        grind
      | succ n ihn =>
        intro hn
        have h0 := ihn (by omega)
        have h1 := stp (n + 1)
        have h2 := dco_mid i j n (by omega)
        have e : ∀ f : Nat → Rat, sumTo f (n + 1 + 1) = sumTo f (n + 1) + f (n + 1) := fun _ => rfl
        rw [e, e, ← h0, h2]
        rw [show i + (n + 1) = i + n + 1 by omega] at h1 ⊢
        grind
    have t := tel j (Nat.le_refl _)
    have top := dco_top i j
    have e : sumTo (fun m => ((j : Rat) + 1) * dco i (j + 1) m * Qr (i + m) x) (j + 1 + 1) = sumTo (fun m => ((j : Rat) + 1) * dco i (j + 1) m * Qr (i + m) x) (j + 1) + ((j : Rat) + 1) * dco i (j + 1) (j + 1) * Qr (i + (j + 1)) x := rfl
    have e2 : sumTo (fun m => ((j : Rat) + 1) * dco i (j + 1) m * Qr (i + m) x) (j + 1 + 1) = ((j : Rat) + 1) * sumTo (fun m => dco i (j + 1) m * Qr (i + m) x) (j + 1 + 1) := by
      rw [← sumTo_mul]
      exact sumTo_congr _ fun m _ => by grind
    have e3 : sumTo (fun m => dco i j m * Qr (i + m) x * (x - (j : Rat))) (j + 1) = (x - (j : Rat)) * sumTo (fun m => dco i j m * Qr (i + m) x) (j + 1) := by
      rw [← sumTo_mul]
      exact sumTo_congr _ fun m _ => by grind
    rw [e3, ← ih] at t
    rw [e2, top] at e
    rw [show i + (j + 1) = i + j + 1 by omega] at e
    have fin : ((j : Rat) + 1) * sumTo (fun m => dco i (j + 1) m * Qr (i + m) x) (j + 1 + 1) = ((j : Rat) + 1) * (Qr i x * Qr (j + 1) x) := by grind
    grind
end LJ
namespace LJ
open PySem L2 DL LR
/-! rows times rows -/
def Ov (d : Int) (B : Nat) (c : Rat) : Prop := ∃ z : Int, c = Rat.divInt z d ∧ z.natAbs ≤ B
theorem Ov.up {d : Int} {B C : Nat} {c : Rat} (h : Ov d B c) (k : B ≤ C) : Ov d C c := by
  obtain ⟨z, e, hz⟩ := h
  exact ⟨z, e, by omega⟩
theorem Ov.zero (d : Int) (B : Nat) : Ov d B 0 := ⟨0, by rw [Rat.divInt_eq_div]; grind, by simp⟩
theorem Ov.add {d : Int} {B C : Nat} {a b : Rat} (ha : Ov d B a) (hb : Ov d C b) : Ov d (B + C) (a + b) := by
  obtain ⟨z, rfl, hz⟩ := ha
  obtain ⟨w, rfl, hw⟩ := hb
  refine ⟨z + w, ?_, by omega⟩
  rw [Rat.divInt_eq_div, Rat.divInt_eq_div, Rat.divInt_eq_div, Rat.intCast_add]; grind
theorem Ov.mul {d e : Int} {B C : Nat} {a b : Rat} (ha : Ov d B a) (hb : Ov e C b) : Ov (d * e) (B * C) (a * b) := by
  obtain ⟨z, rfl, hz⟩ := ha
  obtain ⟨w, rfl, hw⟩ := hb
  refine ⟨z * w, by rw [Rat.divInt_mul_divInt], ?_⟩
  rw [Int.natAbs_mul]
  exact Nat.mul_le_mul hz hw
theorem Ov.times {d : Int} {B : Nat} {a : Rat} (ha : Ov d B a) (n : Int) {N : Nat} (hn : n.natAbs ≤ N) : Ov d (N * B) ((n : Rat) * a) := by
  obtain ⟨z, rfl, hz⟩ := ha
  refine ⟨n * z, ?_, by rw [Int.natAbs_mul]; exact Nat.mul_le_mul hn hz⟩
  rw [Rat.divInt_eq_div, Rat.divInt_eq_div, Rat.intCast_mul]; grind
theorem Ov.sz {d : Int} {B m k : Nat} {a : Rat} (h : Ov d B a) (hB : B < 2 ^ m) (hd : d.natAbs < 2 ^ k) (h0 : d ≠ 0) : Sz m k a := by
  obtain ⟨z, rfl, hz⟩ := h
  exact sz_divInt (show z.natAbs < 2 ^ m from Nat.lt_of_le_of_lt hz hB) hd h0
theorem coef_set {V : List Rat} {k : Nat} (c : Rat) (hk : k < V.length) (i : Nat) : coef (V.set k c) i = if i = k then c else coef V i := by
  unfold coef
  rw [List.getD_eq_getElem?_getD, List.getD_eq_getElem?_getD, List.getElem?_set]
  by_cases h : k = i
  · subst h; simp [hk]
  · rw [if_neg h, if_neg (fun e => h e.symm)]
theorem ev_set : ∀ (V : List Rat) (k s : Nat) (c x : Rat), k < V.length → evR s (V.set k c) x = evR s V x + (c - coef V k) * Qr (s + k) x
  | [], k, s, c, x, h => by simp at h
  | a :: V, 0, s, c, x, h => by
    have : coef (a :: V) 0 = a := rfl
    rw [List.set_cons_zero, this]
    unfold evR
    rw [Nat.add_zero]; grind
  | a :: V, k + 1, s, c, x, h => by
    have ih := ev_set V k (s + 1) c x (by simpa using h)
    have : coef (a :: V) (k + 1) = coef V k := rfl
    rw [List.set_cons_succ, this]
    unfold evR
    rw [ih, show s + 1 + k = s + (k + 1) by omega]; grind
theorem put_row {V : List Rat} {k : Nat} {c : Rat} (hk : k < V.length) : putS (rowL V) (.int (k : Int)) (fr c) = pure (rowL (V.set k c)) := by
  have hi : ixN (V.map fr).length (k : Int) = some k := by
    unfold ixN
    rw [List.length_map]
    simp
    omega
  show (match ixN (V.map fr).length (k : Int) with
    | some n => (pure (.list ((V.map fr).set n (fr c))) : S PyData)
    | none => S.fail) = _
  rw [hi]
  rw [show rowL (V.set k c) = .list ((V.set k c).map fr) from rfl, List.map_set]
/-- the terms of a product -/
structure Tm (d : Int) (T i j : Nat) (α β : Rat) : Prop where
  hi : i ≤ 30
  hj : j ≤ 30
  t : Ov d T (α * β)
  sa : Sz 100000 1000 α
  sb : Sz 100000 1000 β
  d0 : d ≠ 0
  dz : d.natAbs < 2 ^ 1000
def wk (i j k : Nat) : Int := chz (k : Int) i * chz (i : Int) (i + j - k)
theorem wk_eq {i j m : Nat} : (wk i j (i + m) : Rat) = dco i j m := by
  unfold wk dco
  rw [Rat.intCast_mul, chz_eq, chz_eq, show i + j - (i + m) = j - m by omega]
  rfl
theorem wk_z {i j k : Nat} (hi : i ≤ 30) (hj : j ≤ 30) (hk : k ≤ i + j) (hk2 : j ≤ k) : Zk 500 (wk i j k) := by
  have h1 := chz_size (t := 6) (n := (k : Int)) (show ((k : Int)).natAbs < 2 ^ 6 by omega) i (by omega)
  have h2 := chz_size (t := 6) (n := (i : Int)) (show ((i : Int)).natAbs < 2 ^ 6 by omega) (i + j - k) (by omega)
  exact (h1.mul h2).up (by omega)
theorem times_step {d : Int} {T i j k B : Nat} {α β : Rat} {V : List Rat} (t : Tm d T i j α β) (hk : k ≤ i + j) (hk2 : j ≤ k) (hkV : k < V.length) (hV : ∀ c ∈ V, Ov d B c) (hB : B < 2 ^ 100000) :
    LR.tlb_row_times_1 (.int (i : Int)) (fr α) (.int (j : Int)) (fr β) (rowL V) (.int (k : Int)) = pure (rowL (V.set k (coef V k + (wk i j k : Rat) * (α * β)))) := by
  have hi := t.hi
  have hj := t.hj
  have c1 := t_choose_eq (t := 6) (n := (k : Int)) (k := i) (show ((k : Int)).natAbs < 2 ^ 6 by omega) (by omega) (by omega) (by omega)
  have c2 := t_choose_eq (t := 6) (n := (i : Int)) (k := i + j - k) (show ((i : Int)).natAbs < 2 ^ 6 by omega) (by omega) (by omega) (by omega)
  have z1 := chz_size (t := 6) (n := (k : Int)) (show ((k : Int)).natAbs < 2 ^ 6 by omega) i (by omega)
  have z2 := chz_size (t := 6) (n := (i : Int)) (show ((i : Int)).natAbs < 2 ^ 6 by omega) (i + j - k) (by omega)
  have e1 : (i : Int) + (j : Int) - (k : Int) = ((i + j - k : Nat) : Int) := by omega
  have hc : Sz 400000 4000 (coef V k) := by
    have hm : coef V k ∈ V := by
      unfold coef
      rw [List.getD_eq_getElem?_getD, List.getElem?_eq_getElem hkV]
      exact List.getElem_mem hkV
    exact ((hV _ hm).sz (m := 100000) (k := 1000) hB t.dz t.d0).up (by omega) (by omega)
  have zw := wk_z (i := i) (j := j) (k := k) hi hj hk hk2
  have sw : Sz 500 1 ((wk i j k : Int) : Rat) := Sz.int zw
  have sab := t.sa.mul t.sb
  have m1 := t_fraction_times_eq (a := α) (b := β) (t.sa.up (by omega) (by omega)) (t.sb.up (by omega) (by omega))
  have m2 := t_fraction_times_eq (a := ((wk i j k : Int) : Rat)) (b := α * β) (sw.up (by omega) (by omega)) (sab.up (by omega) (by omega))
  have m3 := t_fraction_sum_eq (a := coef V k) (b := ((wk i j k : Int) : Rat) * (α * β)) hc ((sw.mul sab).up (by omega) (by omega))
  have hm : pyMul (.int (chz (k : Int) i)) (.int (chz (i : Int) (i + j - k))) = some (.d (.int (wk i j k))) := mul_z z1 z2 (by omega)
  unfold LR.tlb_row_times_1
  simp only [pure_bind, c1, sBin_p, pyAdd_ii, pySub_ii, sOp_d, e1, c2, hm, ix_frL hkV, sNil_p, sCons_p, sTup_p, sSz_2, fr_int, m1, m2, m3, put_row hkV]
end LJ
namespace LJ
open PySem L2 DL LR
def trm (i j : Nat) (x : Rat) (m : Nat) : Rat := dco i j m * Qr (i + m) x
theorem sumTo_zero {f : Nat → Rat} : ∀ n : Nat, (∀ m, m < n → f m = 0) → sumTo f n = 0
  | 0, _ => rfl
  | n + 1, h => by
    unfold sumTo
    rw [sumTo_zero n fun m hm => h m (by omega), h n (by omega)]; grind
theorem low_zero (i j : Nat) (x : Rat) : sumTo (trm i j x) (max i j - i) = 0 := sumTo_zero _ fun m hm => by
  unfold trm dco
  rw [Q_above i (j - m) (by omega)]; grind
theorem ov_mem {d : Int} {B : Nat} {V : List Rat} (h : ∀ idx, Ov d B (coef V idx)) : ∀ c ∈ V, Ov d B c := fun c hc => by
  obtain ⟨k, rfl⟩ := mem_coef hc
  exact h k
theorem inner {d : Int} {T i j B W : Nat} {α β : Rat} (t : Tm d T i j α β) (hW : W = 2 ^ 500) (hB : B + W * T < 2 ^ 100000) : ∀ (r k0 : Nat) (V : List Rat), k0 + r = i + j + 1 → max i j ≤ k0 → i + j < V.length → (∀ idx, idx < k0 → Ov d (B + W * T) (coef V idx)) → (∀ idx, k0 ≤ idx → Ov d B (coef V idx)) →
    ∃ V' : List Rat, foldS (fun v (a : Nat) => LR.tlb_row_times_1 (.int (i : Int)) (fr α) (.int (j : Int)) (fr β) v (.int (a : Int))) ((List.range r).map fun t => k0 + t) (rowL V) = pure (rowL V') ∧ V'.length = V.length ∧
      (∀ x, evR 0 V' x = evR 0 V x + (α * β) * (sumTo (trm i j x) (j + 1) - sumTo (trm i j x) (k0 - i))) ∧ (∀ idx, Ov d (B + W * T) (coef V' idx)) ∧ (∀ idx, i + j < idx → coef V' idx = coef V idx) ∧
      coef V' (i + j) = coef V (i + j) + (if r = 0 then 0 else (wk i j (i + j) : Rat) * (α * β))
  | 0, k0, V, hk, hm, hl, h1, h2 => by
    refine ⟨V, rfl, rfl, fun x => ?_, fun idx => ?_, fun _ _ => rfl, ?_⟩
    · rw [show k0 - i = j + 1 by omega]; grind
    · by_cases h : idx < k0
      · exact h1 idx h
      · exact (h2 idx (by omega)).up (by omega)
    · rw [if_pos rfl]; grind
  | r + 1, k0, V, hk, hm, hl, h1, h2 => by
    have hall : ∀ idx, Ov d (B + W * T) (coef V idx) := fun idx => by
      by_cases h : idx < k0
      · exact h1 idx h
      · exact (h2 idx (by omega)).up (by omega)
    have st := times_step t (k := k0) (V := V) (by omega) (by omega) (by omega) (ov_mem hall) hB
    have hwz := wk_z (i := i) (j := j) (k := k0) t.hi t.hj (by omega) (by omega)
    have hw : (wk i j k0).natAbs ≤ W := by rw [hW]; exact Nat.le_of_lt hwz
    have hk0 : k0 < V.length := by omega
    have cs := coef_set (V := V) (coef V k0 + (wk i j k0 : Rat) * (α * β)) hk0
    obtain ⟨V', e1, e2, e3, e4, e5, e6⟩ := inner t hW hB r (k0 + 1) (V.set k0 (coef V k0 + (wk i j k0 : Rat) * (α * β))) (by omega) (by omega) (by rw [List.length_set]; exact hl)
      (fun idx hx => by
        rw [cs]
        split
        · exact (h2 k0 (Nat.le_refl _)).add (t.t.times _ hw)
        · exact h1 idx (by omega))
      (fun idx hx => by
        rw [cs, if_neg (by omega)]
        exact h2 idx (by omega))
    refine ⟨V', ?_, by rw [e2, List.length_set], fun x => ?_, e4, fun idx hx => ?_, ?_⟩
    · rw [List.range_succ_eq_map, List.map_cons, foldS_cons, Nat.add_zero, st, pure_bind, List.map_map]
      have em : (List.range r).map ((fun t => k0 + t) ∘ Nat.succ) = (List.range r).map fun t => k0 + 1 + t := List.map_congr_left fun m _ => by show k0 + (m + 1) = _; omega
      rw [em]
      exact e1
    · rw [e3 x, ev_set V k0 0 _ x hk0, Nat.zero_add, show k0 + 1 - i = k0 - i + 1 by omega]
      have es : sumTo (trm i j x) (k0 - i + 1) = sumTo (trm i j x) (k0 - i) + trm i j x (k0 - i) := rfl
      have et : trm i j x (k0 - i) = (wk i j k0 : Rat) * Qr k0 x := by
        unfold trm
        have := wk_eq (i := i) (j := j) (m := k0 - i)
        rw [show i + (k0 - i) = k0 by omega] at this ⊢
        rw [this]
      rw [es, et]; grind
    · rw [e5 idx hx, cs, if_neg (by omega)]
    · rw [e6, cs]
      by_cases hr : r = 0
      · subst hr
        rw [if_pos rfl, if_pos (by omega), if_neg (by omega), show k0 = i + j by omega]; grind
      · rw [if_neg hr, if_neg (by omega), if_neg (by omega)]
theorem inner_all {d : Int} {T i j B W : Nat} {α β : Rat} {V : List Rat} (t : Tm d T i j α β) (hW : W = 2 ^ 500) (hB : B + W * T < 2 ^ 100000) (hl : i + j < V.length) (hV : ∀ idx, Ov d B (coef V idx)) :
    ∃ V' : List Rat, LR.tlb_row_times_2 (.int (i : Int)) (fr α) (rowL V) (.int (j : Int), fr β) = pure (rowL V') ∧ V'.length = V.length ∧
      (∀ x, evR 0 V' x = evR 0 V x + (α * β) * (Qr i x * Qr j x)) ∧ (∀ idx, Ov d (B + W * T) (coef V' idx)) ∧ (∀ idx, i + j < idx → coef V' idx = coef V idx) ∧
      coef V' (i + j) = coef V (i + j) + (wk i j (i + j) : Rat) * (α * β) := by
  obtain ⟨V', e1, e2, e3, e4, e5, e6⟩ := inner t hW hB (i + j + 1 - max i j) (max i j) V (by omega) (Nat.le_refl _) hl (fun idx _ => (hV idx).up (by omega)) (fun idx _ => hV idx)
  refine ⟨V', ?_, e2, fun x => ?_, e4, e5, ?_⟩
  · have hir : rngTo ((max i j : Nat) : Int) ((i : Int) + (j : Int) + 1) = some (((List.range (i + j + 1 - max i j)).map fun t => max i j + t).map fun a : Nat => PyData.int (a : Int)) := by
      have := t.hi; have := t.hj
      rw [rng_ir ⟨by omega, by omega⟩]
      unfold ir
      rw [show ((i : Int) + (j : Int) + 1 - ((max i j : Nat) : Int)).toNat = i + j + 1 - max i j by omega, List.map_map, List.map_map]
      congr 1
    unfold LR.tlb_row_times_2
    simp only [sNil_p, sCons_p, sCallB_p, max2_i, sOp_d, sBin_p, pyAdd_ii, sRange2_p, hir, opt_some, pure_bind]
    rw [foldS_map]
    simp only [un1_p, opt_some, pure_bind]
    rw [e1]
    simp
  · rw [e3 x, low_zero, ← show Qr i x * Qr j x = sumTo (trm i j x) (j + 1) from Qr_mul i x j]; grind
  · rw [e6, if_neg (by omega)]
end LJ
namespace LJ
open PySem L2 DL LR
/-- two rows that may be multiplied -/
structure Pd (d : Int) (T W : Nat) (a b : List Rat) : Prop where
  la : a.length ≤ 20
  lb : b.length ≤ 20
  t : ∀ x ∈ a, ∀ y ∈ b, Ov d T (x * y)
  sa : SzA 100000 1000 a
  sb : SzA 100000 1000 b
  d0 : d ≠ 0
  dz : d.natAbs < 2 ^ 1000
  w : W = 2 ^ 500
  big : 400 * (W * T) < 2 ^ 100000
theorem Pd.tm {d : Int} {T W i j : Nat} {a b : List Rat} {α β : Rat} (P : Pd d T W a b) (ha : α ∈ a) (hb : β ∈ b) (hi : i < a.length) (hj : j < b.length) : Tm d T i j α β :=
  ⟨by have := P.la; omega, by have := P.lb; omega, P.t α ha β hb, P.sa α ha, P.sb β hb, P.d0, P.dz⟩
theorem middle {d : Int} {T W i : Nat} {a b : List Rat} {α : Rat} (P : Pd d T W a b) (ha : α ∈ a) (hi : i < a.length) : ∀ (r : List Rat) (j B : Nat) (V : List Rat), b.drop j = r → j + r.length = b.length → i + b.length ≤ V.length → (∀ idx, Ov d B (coef V idx)) → B + r.length * (W * T) < 2 ^ 100000 →
    ∃ V' : List Rat, foldS (fun v (p : Rat × Nat) => LR.tlb_row_times_2 (.int (i : Int)) (fr α) v (.int (p.2 : Nat), fr p.1)) (r.zipIdx j) (rowL V) = pure (rowL V') ∧ V'.length = V.length ∧
      (∀ x, evR 0 V' x = evR 0 V x + α * Qr i x * evR j r x) ∧ (∀ idx, Ov d (B + r.length * (W * T)) (coef V' idx)) ∧ (∀ idx, i + b.length ≤ idx → coef V' idx = coef V idx) ∧
      (r ≠ [] → coef V' (i + b.length - 1) = coef V (i + b.length - 1) + (wk i (b.length - 1) (i + b.length - 1) : Rat) * (α * coef b (b.length - 1)))
  | [], j, B, V, hd, hj, hl, hV, hB => ⟨V, rfl, rfl, fun x => by unfold evR; grind, fun idx => (hV idx).up (by omega), fun _ _ => rfl, fun h => absurd rfl h⟩
  | β :: r, j, B, V, hd, hj, hl, hV, hB => by
    rw [List.length_cons] at hj hB
    have hjl : j < b.length := by omega
    have hdc := drop_cons_coef hjl
    rw [hd] at hdc
    injection hdc with hb1 hb2
    have hbm : β ∈ b := List.mem_of_mem_drop (by rw [hd]; simp : β ∈ b.drop j)
    have es : (r.length + 1) * (W * T) = r.length * (W * T) + W * T := Nat.succ_mul _ _
    obtain ⟨V1, f1, f2, f3, f4, f5, f6⟩ := inner_all (V := V) (B := B) (P.tm ha hbm hi hjl) P.w (by omega) (by omega) hV
    obtain ⟨V', e1, e2, e3, e4, e5, e6⟩ := middle P ha hi r (j + 1) (B + W * T) V1 hb2.symm (by omega) (by omega) f4 (by omega)
    refine ⟨V', ?_, by rw [e2, f2], fun x => ?_, fun idx => ?_, fun idx hx => ?_, fun _ => ?_⟩
    · rw [List.zipIdx_cons, foldS_cons, f1, pure_bind]
      exact e1
    · rw [e3 x, f3 x]
      have : evR j (β :: r) x = Qr j x * β + evR (j + 1) r x := rfl
      rw [this]; grind
    · have := e4 idx
      rw [List.length_cons, es]
      exact this.up (by omega)
    · rw [e5 idx hx, f5 idx (by omega)]
    · by_cases hr : r = []
      · subst hr
        have hj1 : j = b.length - 1 := by simp at hj; omega
        have e0 : V' = V1 ∨ True := .inr trivial
        have h1 : coef V' (i + b.length - 1) = coef V1 (i + b.length - 1) := by
          rw [List.zipIdx_nil, foldS_nil] at e1
          have e1' : (rowL V1 : PyData) = rowL V' := by
            have := congrFun e1 none
            have h : some ((rowL V1 : PyData), (none : G)) = some (rowL V', none) := this
            injection h with h
            injection h
          injection e1' with e1'
          rw [map_fr_inj e1']
        rw [h1, show i + b.length - 1 = i + j by omega, f6, ← hj1, hb1]
      · rw [e6 hr, f5 _ (by
          have : r.length ≠ 0 := fun h => hr (List.length_eq_zero_iff.mp h)
          omega)]
theorem middle_all {d : Int} {T W i B : Nat} {a b V : List Rat} {α : Rat} (y : PyData) (hy : y = rowT b ∨ y = rowL b) (P : Pd d T W a b) (ha : α ∈ a) (hi : i < a.length) (hl : i + b.length ≤ V.length) (hV : ∀ idx, Ov d B (coef V idx)) (hB : B + b.length * (W * T) < 2 ^ 100000) :
    ∃ V' : List Rat, LR.tlb_row_times_3 y (rowL V) (.int (i : Int), fr α) = pure (rowL V') ∧ V'.length = V.length ∧
      (∀ x, evR 0 V' x = evR 0 V x + α * Qr i x * evR 0 b x) ∧ (∀ idx, Ov d (B + b.length * (W * T)) (coef V' idx)) ∧ (∀ idx, i + b.length ≤ idx → coef V' idx = coef V idx) ∧
      (b ≠ [] → coef V' (i + b.length - 1) = coef V (i + b.length - 1) + (wk i (b.length - 1) (i + b.length - 1) : Rat) * (α * coef b (b.length - 1))) := by
  obtain ⟨V', e1, e2, e3, e4, e5, e6⟩ := middle P ha hi b 0 B V rfl (by omega) hl hV hB
  refine ⟨V', ?_, e2, e3, e4, e5, e6⟩
  have hE : sEnum (pure y) = pure (b.zipIdx.map fun p => .tuple [.int (p.2 : Nat), fr p.1]) := by
    rcases hy with rfl | rfl
    · rw [show rowT b = .tuple (b.map fr) from rfl, sEnum_t, numbered_fr]
    · rw [show rowL b = .list (b.map fr) from rfl, sEnum_l, numbered_fr]
  unfold LR.tlb_row_times_3
  rw [hE, pure_bind, foldS_map]
  simp only [un2_p, opt_some, pure_bind]
  rw [e1]
  simp
theorem outer {d : Int} {T W : Nat} {a b : List Rat} (y : PyData) (hy : y = rowT b ∨ y = rowL b) (P : Pd d T W a b) : ∀ (r : List Rat) (i B : Nat) (V : List Rat), a.drop i = r → i + r.length = a.length → a.length + b.length ≤ V.length → (∀ idx, Ov d B (coef V idx)) → B + r.length * (b.length * (W * T)) < 2 ^ 100000 → (∀ idx, i + b.length ≤ idx + 1 → coef V idx = 0) →
    ∃ V' : List Rat, foldS (fun v (p : Rat × Nat) => LR.tlb_row_times_3 y v (.int (p.2 : Nat), fr p.1)) (r.zipIdx i) (rowL V) = pure (rowL V') ∧ V'.length = V.length ∧
      (∀ x, evR 0 V' x = evR 0 V x + evR i r x * evR 0 b x) ∧ (∀ idx, Ov d (B + r.length * (b.length * (W * T))) (coef V' idx)) ∧ (∀ idx, a.length + b.length ≤ idx + 1 → coef V' idx = 0) ∧
      (r ≠ [] → b ≠ [] → coef V' (a.length + b.length - 2) = (wk (a.length - 1) (b.length - 1) (a.length + b.length - 2) : Rat) * (coef a (a.length - 1) * coef b (b.length - 1)))
  | [], i, B, V, hd, hi, hl, hV, hB, hz => ⟨V, rfl, rfl, fun x => by simp only [evR]; grind, fun idx => (hV idx).up (by omega), fun idx hx => hz idx (by simp at hi; omega), fun h => absurd rfl h⟩
  | α :: r, i, B, V, hd, hi, hl, hV, hB, hz => by
    rw [List.length_cons] at hi hB
    have hil : i < a.length := by omega
    have hdc := drop_cons_coef hil
    rw [hd] at hdc
    injection hdc with ha1 ha2
    have ham : α ∈ a := List.mem_of_mem_drop (by rw [hd]; simp : α ∈ a.drop i)
    have es : (r.length + 1) * (b.length * (W * T)) = r.length * (b.length * (W * T)) + b.length * (W * T) := Nat.succ_mul _ _
    obtain ⟨V1, f1, f2, f3, f4, f5, f6⟩ := middle_all (V := V) (B := B) y hy P ham hil (by omega) hV (by omega)
    obtain ⟨V', e1, e2, e3, e4, e5, e6⟩ := outer y hy P r (i + 1) (B + b.length * (W * T)) V1 ha2.symm (by omega) (by omega) f4 (by omega) (fun idx hx => by rw [f5 idx (by omega)]; exact hz idx (by omega))
    refine ⟨V', ?_, by rw [e2, f2], fun x => ?_, fun idx => ?_, e5, fun _ hb => ?_⟩
    · rw [List.zipIdx_cons, foldS_cons, f1, pure_bind]
      exact e1
    · rw [e3 x, f3 x]
      have : evR i (α :: r) x = Qr i x * α + evR (i + 1) r x := rfl
      rw [this]; grind
    · rw [List.length_cons, es]
      exact (e4 idx).up (by omega)
    · by_cases hr : r = []
      · subst hr
        have hi1 : i = a.length - 1 := by simp at hi; omega
        have h1 : coef V' (a.length + b.length - 2) = coef V1 (a.length + b.length - 2) := by
          rw [List.zipIdx_nil, foldS_nil] at e1
          have e1' : (rowL V1 : PyData) = rowL V' := by
            have := congrFun e1 none
            have h : some ((rowL V1 : PyData), (none : G)) = some (rowL V', none) := this
            injection h with h
            injection h
          injection e1' with e1'
          rw [map_fr_inj e1']
        have hbl : b.length ≠ 0 := fun h => hb (List.length_eq_zero_iff.mp h)
        have h2 := f6 hb
        rw [show i + b.length - 1 = a.length + b.length - 2 by omega, hz _ (by omega)] at h2
        rw [h1, h2, ← hi1, ha1]
        grind
      · exact e6 hr hb
/-- the product of two rows -/
theorem t_row_times_eq {d : Int} {T W : Nat} {a b : List Rat} (x y : PyData) (hx : x = rowT a ∨ x = rowL a) (hy : y = rowT b ∨ y = rowL b) (P : Pd d T W a b) (ta : Trim a) (tb : Trim b) :
    ∃ V : List Rat, LR.t_row_times x y = pure (rowT V) ∧ Trim V ∧ (∀ x, evR 0 V x = evR 0 a x * evR 0 b x) ∧ (∀ c ∈ V, Ov d (a.length * (b.length * (W * T))) c) ∧ V.length ≤ a.length + b.length ∧ ((wk (a.length - 1) (b.length - 1) (a.length + b.length - 2) : Rat) * (coef a (a.length - 1) * coef b (b.length - 1)) ≠ 0 → a ≠ [] → b ≠ [] → V.length = a.length + b.length - 1) := by
  have hla := P.la
  have hlb := P.lb
  have hc0 : ∀ idx, coef (List.replicate (a.length + b.length) (0 : Rat)) idx = 0 := fun idx => by
    unfold coef
    rw [List.getD_eq_getElem?_getD, List.getElem?_replicate]
    split <;> rfl
  have hbig : 0 + a.length * (b.length * (W * T)) < 2 ^ 100000 := by
    have h1 : a.length * (b.length * (W * T)) ≤ 20 * (20 * (W * T)) := Nat.mul_le_mul hla (Nat.mul_le_mul_right _ hlb)
    have := P.big
    omega
  obtain ⟨V, e1, e2, e3, e4, e5, e6⟩ := outer y hy P a 0 0 (List.replicate (a.length + b.length) 0) rfl (by omega) (by simp) (fun idx => by rw [hc0]; exact Ov.zero d 0) hbig (fun idx _ => hc0 idx)
  have hVl : V.length = a.length + b.length := by rw [e2]; simp
  have ev0' : ∀ (n s : Nat) (x : Rat), evR s (List.replicate n (0 : Rat)) x = 0 := fun n => by
    induction n with
    | zero => intro s x; rfl
    | succ n ih => intro s x; rw [List.replicate_succ]; unfold evR; rw [ih]; grind
  refine ⟨trim V, ?_, trim_trim V, fun x => ?_, fun c hc => ?_, by have := trim_le V; omega, fun hne ha hb => ?_⟩
  · have lx : DL.pyLen [x] = some (.d (.int (a.length : Nat))) := by rcases hx with rfl | rfl <;> simp
    have ly : DL.pyLen [y] = some (.d (.int (b.length : Nat))) := by rcases hy with rfl | rfl <;> simp
    have hE : sEnum (pure x) = pure (a.zipIdx.map fun p => .tuple [.int (p.2 : Nat), fr p.1]) := by
      rcases hx with rfl | rfl
      · rw [show rowT a = .tuple (a.map fr) from rfl, sEnum_t, numbered_fr]
      · rw [show rowL a = .list (a.map fr) from rfl, sEnum_l, numbered_fr]
    have eadd : (a.length : Int) + (b.length : Int) = ((a.length + b.length : Nat) : Int) := by omega
    unfold LR.t_row_times
    simp only [sNil_p, sCons_p, sLst_p, sSz_1, sCallB_p, lx, ly, sOp_d, sBin_p, pyAdd_ii, eadd, fr_zero, line_mul (a.length + b.length) (by omega), sOp_fr, pure_bind, hE, foldS_map, un2_p, opt_some, e1]
    exact t_row_of_eq (by omega)
  · rw [ev_trim, e3 x, ev0']; grind
  · have hm : c ∈ V := by rw [trim_take] at hc; exact List.mem_of_mem_take hc
    obtain ⟨k, rfl⟩ := mem_coef hm
    exact (e4 k).up (by omega)
  · have h1 := e6 ha hb
    have h2 : coef (trim V) (a.length + b.length - 2) ≠ 0 := by rw [coef_trim, h1]; exact hne
    have hal : a.length ≠ 0 := fun h => ha (List.length_eq_zero_iff.mp h)
    have hbl : b.length ≠ 0 := fun h => hb (List.length_eq_zero_iff.mp h)
    have h3 : a.length + b.length - 2 < (trim V).length := by
      rcases Nat.lt_or_ge (a.length + b.length - 2) (trim V).length with z | z
      · exact z
      · exact absurd (coef_beyond z) h2
    have h4 := trim_le V
    have h5 : (trim V).length ≠ a.length + b.length := fun h => by
      have ht := trim_trim V
      have hlast : coef (trim V) (a.length + b.length - 1) = 0 := by rw [coef_trim]; exact e5 _ (by omega)
      rcases List.eq_nil_or_concat (trim V) with q | ⟨l, z, q⟩
      · rw [q] at h; simp at h; omega
      · rw [List.concat_eq_append] at q
        rw [q] at hlast h ht
        have hz : z = 0 := by
          have hll : l.length = a.length + b.length - 1 := by simp at h; omega
          unfold coef at hlast
          rw [List.getD_eq_getElem?_getD, ← hll] at hlast
          simpa using hlast
        subst hz
        rw [trim_snoc_zero] at ht
        have := trim_le l
        rw [ht] at this
        simp at this
        omega
    omega
end LJ
namespace LJ
open PySem L2 DL LR
/-! what the law of sums and products asks -/
theorem t__law_is_fraction_fr {c : Rat} (h : Sz 800000 8999 c) : t__law_is_fraction (fr c) = pure (.bool true) := by
  have hd : (0 : Int) < (c.den : Int) := by have := c.den_pos; omega
  have e := t__law_fraction_eq hd (h.nz.up (by omega)) h.dz
  rw [Rat.num_divInt_den] at e
  have hm : compG (fun q1 => (sNotT (sBool (t__law_is_int q1))) >>= fun c => if c then pure (some q1) else pure none) [PyData.int c.num, PyData.int (c.den : Nat)] = pure [] := by
    rw [compG_cons, compG_cons, compG_nil, t__law_is_int_eq, t__law_is_int_eq]
    rfl
  have he : pyEq (fr c) (fr c) = some (.d (.bool true)) := by rw [eq_fr, decide_eq_true rfl]
  have f0 : pyIx (fr c) (.int 0) = some (.d (.int c.num)) := rfl
  have f1 : pyIx (fr c) (.int 1) = some (.d (.int (c.den : Nat))) := rfl
  have hl : DL.pyLen [fr c] = some (.d (.int 2)) := rfl
  have hi : sItems (pure (fr c)) = pure [PyData.int c.num, PyData.int (c.den : Nat)] := rfl
  have ht : isiD "tuple" (fr c) = true := tup_tup _
  unfold t__law_is_fraction
  simp only [sIsi_p, ht, sBool_p, sNotT_p, Bool.not_true, sOrT_p, Bool.false_eq_true, if_false, sNil_p, sCons_p, sCallB_p, hl, sOp_d, sBin_p, pyNe_ii, hi, sComp_p, un1_p, opt_some, pure_bind, hm, sSz_nil, sLst_p, pyNe_l0, f0, f1, pyGt_ii, e, he, hd, decide_true, sAndV_p, if_true, sIf_p]
  simp
theorem t__law_is_row_eq {l : List Rat} (h : SzA 800000 8999 l) (hl : l.length ≤ 100000) : t__law_is_row (rowT l) = pure (.bool (decide (trim l = l))) := by
  have hc : compG (fun q1 => (sNotT (sBool (t__law_is_fraction q1))) >>= fun c => if c then pure (some q1) else pure none) (l.map fr) = pure [] := by
    rw [compG_map]
    have := compG_eq (f := fun a : Rat => (sNotT (sBool (t__law_is_fraction (fr a)))) >>= fun c => if c then pure (some (fr a)) else pure none) (fun _ => false) fr (l := l) fun x hx => by
      rw [t__law_is_fraction_fr (h x hx), sBool_p, sNotT_p, pure_bind]; rfl
    rw [this, List.filter_eq_nil_iff.mpr (fun _ _ => by simp)]
    rfl
  unfold t__law_is_row
  simp only [sIsi_p, tup_tup, sBool_p, sNotT_p, Bool.not_true, sOrT_p, Bool.false_eq_true, if_false, sItems_t, sComp_p, un1_p, opt_some, pure_bind, hc, sSz_nil, sNil_p, sLst_p, sBin_p, pyNe_l0, List.isEmpty_nil, sOp_d, sIf_p, sCons_p, sTup_p, sSz_2, sUn_p, pyNeg_i, fr_zero]
  have := tail_eq l
  simp only [sBin_p] at this
  exact this
theorem ev_ext {a b : List Rat} (ha : Trim a) (hb : Trim b) (h : ∀ n : Nat, evR 0 a (n : Rat) = evR 0 b (n : Rat)) : a = b := by
  refine (apart_nil (m := max a.length b.length) ha hb (by omega) (by omega)).mp ?_
  unfold apartL
  refine List.filter_eq_nil_iff.mpr fun n _ => ?_
  rw [decide_eq_true (h n)]; simp
theorem sh_sh (l : List Rat) (m k : Int) : trim (shR m (trim (shR k l))) = trim (shR (m + k) l) := by
  refine ev_ext (trim_trim _) (trim_trim _) fun n => ?_
  rw [ev_trim, ev_trim, ev_sh, ev_sh, ev_trim, ev_sh, Rat.intCast_add]
  congr 1
  grind
theorem sh_nil (m : Int) : shR m [] = [] := rfl
theorem coef_sh (m : Int) : ∀ (l : List Rat) (k : Nat), coef (shR m l) k = evR 0 (l.drop k) (m : Rat)
  | [], k => by
    rw [List.drop_nil]
    show coef [] k = _
    unfold coef evR; simp
  | a :: l, 0 => rfl
  | a :: l, k + 1 => by
    rw [List.drop_succ_cons, ← coef_sh m l k]
    rfl
theorem sh_len {l : List Rat} (h : Trim l) (m : Int) : (trim (shR m l)).length = l.length := by
  rcases List.eq_nil_or_concat l with rfl | ⟨r, a, rfl⟩
  · rfl
  · rw [List.concat_eq_append] at h ⊢
    have ha : a ≠ 0 := fun e => by
      subst e
      have h' : trim (r ++ [0]) = r ++ [0] := h
      rw [trim_snoc_zero] at h'
      have := trim_le r
      rw [h'] at this
      simp at this
      omega
    have h1 : coef (trim (shR m (r ++ [a]))) r.length ≠ 0 := by
      rw [coef_trim, coef_sh, List.drop_left]
      show Qr 0 _ * a + 0 ≠ 0
      have : Qr 0 (m : Rat) = 1 := rfl
      rw [this]; grind
    have h2 : r.length < (trim (shR m (r ++ [a]))).length := by
      rcases Nat.lt_or_ge r.length (trim (shR m (r ++ [a]))).length with z | z
      · exact z
      · exact absurd (coef_beyond z) h1
    have h3 := trim_le (shR m (r ++ [a]))
    rw [shR_len] at h3
    simp at h3 ⊢
    omega
theorem less_on (a : List Rat) : lessR (trim (shR 1 a)) a = trim (a.drop 1) := by
  have s1 : shR 1 a = onR a := by rw [show (1 : Int) = 0 + 1 from rfl, sh_succ, sh_zero]
  refine Trim.ext (trim_trim _) (trim_trim _) fun k => ?_
  rw [coef_less, coef_trim, s1, coef_on, coef_trim]
  have : coef (a.drop 1) k = coef a (k + 1) := by
    unfold coef
    rw [List.getD_eq_getElem?_getD, List.getD_eq_getElem?_getD, List.getElem?_drop, Nat.add_comm]
  rw [this]; grind
def sumEv (a : List Rat) : Nat → Rat
  | 0 => 0
  | n + 1 => sumEv a n + evR 0 a (n : Rat)
theorem ev_summed (a : List Rat) : ∀ n : Nat, evR 0 (0 :: a) (n : Rat) = sumEv a n
  | 0 => by
    rw [ev0]
    have := ev_zero a 0
    show (0 : Rat) + evR 1 a (0 : Rat) = 0
    rw [this]; grind
  | n + 1 => by
    have ih := ev_summed a n
    rw [ev0] at ih ⊢
    have h := ev_pascal a 0 (n : Rat)
    have e : ((n + 1 : Nat) : Rat) = (n : Rat) + 1 := by simp
    rw [show (0 + 1 : Nat) = 1 from rfl] at h
    rw [e, h]
    unfold sumEv
    rw [← ih]; grind
theorem trim_cons {a : List Rat} (h : Trim a) (c : Rat) (ha : a ≠ []) : Trim (c :: a) := by
  rcases List.eq_nil_or_concat a with rfl | ⟨r, z, rfl⟩
  · exact absurd rfl ha
  · rw [List.concat_eq_append] at h ⊢
    have hz : z ≠ 0 := fun e => by
      subst e
      have h' : trim (r ++ [0]) = r ++ [0] := h
      rw [trim_snoc_zero] at h'
      have := trim_le r
      rw [h'] at this
      simp at this
      omega
    show trim (c :: (r ++ [z])) = c :: (r ++ [z])
    rw [← List.cons_append]
    exact trim_snoc _ _ hz
def summedR (a : List Rat) : List Rat := if a = [] then [] else 0 :: a
theorem t_row_summed_eq {a : List Rat} (hl : a.length ≤ 10000) : LR.t_row_summed (rowT a) = pure (rowT (summedR a)) := by
  have hn := ne_rowT a []
  have hn' : pyNe (rowT a) (.tuple []) = some (.d (.bool (!decide (a = [])))) := hn
  unfold LR.t_row_summed summedR
  simp only [sNil_p, sTup_p, sSz_nil, sBin_p, hn', sOp_d, sBool_p, sIf_p, sStar_t, sCons_p, List.append_nil, fr_zero]
  by_cases h : a = []
  · subst h; rfl
  · rw [decide_eq_false h, if_neg h]
    exact sSz_eq _ (by simp; omega)
theorem summed_trim {a : List Rat} (h : Trim a) : Trim (summedR a) := by
  unfold summedR
  split
  · rfl
  · rename_i hh; exact trim_cons h 0 hh
theorem ev_summedR (a : List Rat) (n : Nat) : evR 0 (summedR a) (n : Rat) = sumEv a n := by
  unfold summedR
  split
  · rename_i h
    subst h
    have : ∀ n, sumEv [] n = 0 := fun n => by
      induction n with
      | zero => rfl
      | succ n ih => unfold sumEv; rw [ih]; unfold evR; grind
    rw [this]; rfl
  · exact ev_summed a n
def scaleR (c : Rat) (a : List Rat) : List Rat := trim (a.map fun x => c * x)
theorem ev_scale (c : Rat) : ∀ (a : List Rat) (k : Nat) (x : Rat), evR k (a.map fun x => c * x) x = c * evR k a x
  | [], k, x => by simp only [List.map_nil, evR]; grind
  | y :: a, k, x => by
    rw [List.map_cons]
    have e1 : evR k ((c * y) :: a.map fun x => c * x) x = Qr k x * (c * y) + evR (k + 1) (a.map fun x => c * x) x := rfl
    have e2 : evR k (y :: a) x = Qr k x * y + evR (k + 1) a x := rfl
    rw [e1, e2, ev_scale c a (k + 1) x]; grind
theorem t_row_scaled_eq {a : List Rat} {c : Rat} (hc : Sz 400000 4000 c) (ha : SzA 400000 4000 a) (hl : a.length ≤ 10000) : LR.t_row_scaled (fr c) (rowT a) = pure (rowT (scaleR c a)) := by
  have hm : mapG (fun x : Rat => LR.t_fraction_times (fr c) (fr x)) a = pure ((a.map fun x => c * x).map fr) := mapG_enc fr (fun x => c * x) fun x hx => t_fraction_times_eq hc (ha x hx)
  unfold LR.t_row_scaled scaleR
  simp only [sItems_t, sCompA_p, mapG_map, un1_p, opt_some, pure_bind, hm]
  rw [sSz_eq _ (by simp; omega), pure_bind]
  exact t_row_of_eq (by simp; omega)
end LJ
namespace LJ
open PySem L2 DL LR
theorem divInt_neg' (p : Int) (b : Nat) : Rat.divInt (-p) (b : Int) = Rat.divInt p (-(b : Int)) := by
  rw [Rat.divInt_eq_div, Rat.divInt_eq_div, Rat.intCast_neg, Rat.intCast_neg]
  grind
theorem t__law_fraction_neg {p : Int} {b : Nat} (hb0 : 0 < b) (hp : Zk 900000 p) (hz : Zk 8999 (b : Int)) : t__law_fraction (.int p) (.int (-(b : Int))) = pure (fr (Rat.divInt p (-(b : Int)))) := by
  have hq : (0 : Int) < (b : Int) := by omega
  have hpn : Zk 900000 (-p) := by unfold Zk at *; rwa [Int.natAbs_neg]
  have h := t__law_fraction_eq (p := -p) hq hpn hz
  rw [divInt_neg'] at h
  rw [← h]
  have ab : pyAbs [.int (b : Int)] = some (.d (.int (b : Int))) := by rw [abs_nat, Int.natAbs_natCast]
  have ab2 : pyAbs [.int (-(b : Int))] = some (.d (.int (b : Int))) := by rw [abs_nat, Int.natAbs_neg, Int.natAbs_natCast]
  have ap : pyAbs [.int (-p)] = some (.d (.int ((p.natAbs : Nat) : Int))) := by rw [abs_nat, Int.natAbs_neg]
  have zm : Zk 1 (-1) := by unfold Zk; decide
  have hzn : Zk 8999 (-(b : Int)) := by unfold Zk at *; rwa [Int.natAbs_neg]
  have n0 : ¬ (0 : Int) < -(b : Int) := by omega
  unfold t__law_fraction
  simp only [sNil_p, sCons_p, sCallB_p, abs_nat p, ap, ab, ab2, sOp_d, two_p, opt_some, pure_bind]
  congr 1
  funext v4
  simp only [sBin_p, pyGt_ii, hq, n0, decide_true, decide_false, sBool_p, sIf_p, if_true, Bool.false_eq_true, if_false, pySub_ii, sOp_d, pure_bind, show (0 : Int) - 1 = -1 by omega, mul_z zm hp (by omega), mul_z zm hzn (by omega), mul_z z1 hpn (by omega), mul_z z1 hz (by omega), Int.one_mul, Int.neg_mul, Int.neg_neg]
theorem t__law_fraction_ne {p q : Int} (hq : q ≠ 0) (hp : Zk 900000 p) (hz : Zk 8999 q) : t__law_fraction (.int p) (.int q) = pure (fr (Rat.divInt p q)) := by
  rcases Int.lt_or_gt_of_ne hq with h | h
  · obtain ⟨b, hb⟩ := Int.eq_ofNat_of_zero_le (show 0 ≤ -q by omega)
    have e : q = -(b : Int) := by omega
    subst e
    exact t__law_fraction_neg (by omega) hp (by unfold Zk at *; rwa [Int.natAbs_neg] at hz)
  · exact t__law_fraction_eq h hp hz
theorem neg_fr (a : Rat) : (.tuple [.int (0 - a.num), .int (a.den : Nat)] : PyData) = fr (-a) := by
  show _ = PyData.tuple [.int (-a.num), .int (a.den : Nat)]
  congr 3; omega
theorem neg_six (a : Rat) : Rat.divInt (a.num * 6) ((a.den : Int) * (-6)) = -a := by
  have h := Rat.num_divInt_den a
  rw [Rat.divInt_eq_div] at h ⊢
  rw [Rat.intCast_mul, Rat.intCast_mul]
  have hd : ((a.den : Int) : Rat) ≠ 0 := by
    intro e
    have := Rat.intCast_inj.mp (show ((a.den : Int) : Rat) = ((0 : Int) : Rat) from e)
    have := a.den_pos
    omega
  have e6 : ((-6 : Int) : Rat) = -6 := rfl
  have e6' : ((6 : Int) : Rat) = 6 := rfl
  rw [e6, e6']
  grind
theorem t_is_int_int (i : Int) : LR.t_is_row (.int i) = pure (.bool false) ∧ t__law_is_row (.int i) = pure (.bool false) ∧ LR.t_is_fraction (.int i) = pure (.bool false) ∧ t__law_is_fraction (.int i) = pure (.bool false) := by
  have hn : isiD "tuple" (.int i) = false := not_tup (fun ds h => by cases h)
  refine ⟨?_, ?_, ?_, ?_⟩
  · unfold LR.t_is_row
    simp only [sIsi_p, hn, sBool_p, sNotT_p, Bool.not_false, sOrT_p, if_true, sIf_p]
  · unfold t__law_is_row
    simp only [sIsi_p, hn, sBool_p, sNotT_p, Bool.not_false, sOrT_p, if_true, sIf_p]
  · unfold LR.t_is_fraction
    simp only [sIsi_p, hn, sBool_p, sNotT_p, Bool.not_false, sOrT_p, if_true, sIf_p]
  · unfold t__law_is_fraction
    simp only [sIsi_p, hn, sBool_p, sNotT_p, Bool.not_false, sOrT_p, if_true, sIf_p]
end LJ
namespace LJ
open PySem L2 DL LR
theorem row_whileT {l : List Rat} : ∀ (k f : Nat), k ≤ l.length → k < f → whileS (LR.twc_row_of_1 (rowT l)) LR.twb_row_of_2 f (.int (k : Int)) = pure (.int ((trim (l.take k)).length : Nat)) := by
  intro k
  induction k with
  | zero =>
    intro f _ hf
    cases f with
    | zero => omega
    | succ f =>
      unfold whileS
      have hc : LR.twc_row_of_1 (rowT l) (.int ((0 : Nat) : Int)) = pure false := by
        unfold LR.twc_row_of_1
        simp only [sBin_p, pyGt_ii, sOp_d, sBool_p, sAndT_p]
        rfl
      rw [hc, pure_bind]
      rfl
  | succ k ih =>
    intro f hk hf
    cases f with
    | zero => omega
    | succ f =>
      have e1 : ((k + 1 : Nat) : Int) - 1 = (k : Int) := by omega
      unfold whileS
      have hc : LR.twc_row_of_1 (rowT l) (.int ((k + 1 : Nat) : Int)) = pure (decide (coef l k = 0)) := by
        unfold LR.twc_row_of_1
        simp only [sBin_p, pyGt_ii, sOp_d, sBool_p, sAndT_p, pySub_ii, e1, ix_frT (show k < l.length by omega), fr_zero, eq_fr]
        rw [if_pos (by rw [decide_eq_true_eq]; omega)]
      rw [hc, pure_bind]
      by_cases h0 : coef l k = 0
      · rw [decide_eq_true h0, if_pos rfl]
        have hb : LR.twb_row_of_2 (.int ((k + 1 : Nat) : Int)) = pure (.int (k : Int)) := by
          unfold LR.twb_row_of_2
          simp only [sBin_p, pySub_ii, sOp_d, pure_bind, e1]
        rw [hb, pure_bind, ih f (by omega) (by omega), trim_take_zero (by omega) h0]
      · rw [decide_eq_false h0, if_neg Bool.false_ne_true, trim_take_ne (by omega) h0, List.length_take, Nat.min_eq_left (by omega)]
theorem t_row_of_T {l : List Rat} (h : l.length ≤ 100000) : LR.t_row_of (rowT l) = pure (rowT (trim l)) := by
  have hw := row_whileT (l := l) l.length LR.fuel_row_of (Nat.le_refl _) (by unfold LR.fuel_row_of; omega)
  rw [List.take_length] at hw
  have hcut : cutD (l.map fr) none (some (((trim l).length : Nat) : Int)) = (trim l).map fr := by
    rw [cut_upto (by rw [List.length_map]; exact trim_le l), ← List.map_take, ← trim_take]
  unfold LR.t_row_of
  simp only [sNil_p, sCons_p, sCallB_p, len_t, List.length_map, sOp_d, pure_bind]
  have hw' : whileS (LR.twc_row_of_1 (.tuple (l.map fr))) LR.twb_row_of_2 LR.fuel_row_of (.int (l.length : Int)) = _ := hw
  rw [hw']
  simp only [pure_bind, partS_i, sSl_p, sl_t, hcut, sOp_d, sCons_p, sCallB_p, tupOf_t]
theorem chz_pascal (n : Int) (k : Nat) : chz (n + 1) (k + 1) = chz n (k + 1) + chz n k := by
  have h := pascal k (n : Rat)
  have e : ((n + 1 : Int) : Rat) = (n : Rat) + 1 := by rw [Rat.intCast_add]; rfl
  rw [← e, ← chz_eq, ← chz_eq, ← chz_eq, ← Rat.intCast_add] at h
  exact Rat.intCast_inj.mp h
theorem ev_sum (a b : List Rat) (x : Rat) : evR 0 (sumR a b) x = evR 0 a x + evR 0 b x := by
  have h := ev_less (sumR a b) b 0 x a fun i => by rw [coef_sum]; grind
  grind
theorem ev_lessR (a b : List Rat) (x : Rat) : evR 0 (lessR a b) x = evR 0 a x - evR 0 b x := ev_less a b 0 x (lessR a b) (coef_less a b)
theorem trim_two {a : List Rat} (h : Trim a) : trim (a ++ [0, 0]) = a := by
  rw [show a ++ [0, 0] = (a ++ [0]) ++ [0] by simp, trim_snoc_zero, trim_snoc_zero]
  exact h
theorem prod_last {V : List Rat} (ht : Trim V) (h : ∀ x, evR 0 V x = evR 0 [0, 1] x * evR 0 [0, 1] x) : V = [0, 1, 2] := by
  refine ev_ext ht (by unfold Trim; decide +kernel) fun n => ?_
  rw [h]
  have q1 := Qr_succ 0 (n : Rat)
  have q2 := Qr_succ 1 (n : Rat)
  have q0 : Qr 0 (n : Rat) = 1 := rfl
  have e0 : ((0 : Nat) : Rat) = 0 := rfl
  have e1 : ((1 : Nat) : Rat) = 1 := rfl
  simp only [evR]
  rw [e0, q0] at q1
  rw [e1] at q2
  rw [q0]
  have p1 : Qr 1 (n : Rat) = (n : Rat) := by grind
  rw [show (0 + 1 : Nat) = 1 from rfl] at *
  rw [show (1 + 1 : Nat) = 2 from rfl] at *
  rw [p1] at q2 ⊢
  grind
end LJ
namespace LJ
open PySem L2 DL LR
/-! polynomials -/
def pv : List Rat → Rat → Rat
  | [], _ => 0
  | c :: p, x => c + x * pv p x
theorem pv_zero_snoc : ∀ (p : List Rat) (x : Rat), pv (p ++ [0]) x = pv p x
  | [], x => by simp only [List.nil_append, pv]; grind
  | c :: p, x => by rw [List.cons_append]; simp only [pv]; rw [pv_zero_snoc p x]
theorem pv_scale (k : Rat) : ∀ (p : List Rat) (x : Rat), pv (p.map fun y => k * y) x = k * pv p x
  | [], x => by simp only [List.map_nil, pv]; grind
  | c :: p, x => by rw [List.map_cons]; simp only [pv]; rw [pv_scale k p x]; grind
theorem pv_zip (k : Rat) : ∀ (u w : List Rat) (x : Rat), u.length = w.length → pv ((List.zip u w).map fun p => p.1 + k * p.2) x = pv u x + k * pv w x
  | [], [], x, _ => by simp only [List.zip_nil_left, List.map_nil, pv]; grind
  | a :: u, [], x, h => by cases h
  | [], b :: w, x, h => by cases h
  | a :: u, b :: w, x, h => by
    rw [List.zip_cons_cons, List.map_cons]
    simp only [pv]
    rw [pv_zip k u w x (by simpa using h)]; grind
theorem pv_trim : ∀ (p : List Rat) (x : Rat), pv (trim p) x = pv p x := by
  intro p x
  have key : ∀ n : Nat, ∀ p : List Rat, p.length = n → pv (trim p) x = pv p x := by
    intro n
    induction n with
    | zero => intro p h; rw [List.length_eq_zero_iff.mp h]; rfl
    | succ n ih =>
      intro p h
      rcases List.eq_nil_or_concat p with rfl | ⟨r, z, rfl⟩
      · cases h
      · rw [List.concat_eq_append] at h ⊢
        by_cases hz : z = 0
        · subst hz
          rw [trim_snoc_zero, pv_zero_snoc]
          exact ih r (by simpa using h)
        · rw [trim_snoc _ _ hz]
  exact key _ p rfl
/-- the next basis polynomial -/
def stepB (k : Nat) (b : List Rat) : List Rat := ((List.zip (0 :: b) (b ++ [0])).map fun p => p.1 + (-(k : Rat)) * p.2).map fun x => (1 / ((k : Rat) + 1)) * x
def bas : Nat → List Rat
  | 0 => [1]
  | k + 1 => stepB k (bas k)
theorem bas_len : ∀ k : Nat, (bas k).length = k + 1
  | 0 => rfl
  | k + 1 => by
    show (stepB k (bas k)).length = _
    unfold stepB
    rw [List.length_map, List.length_map, List.length_zip, List.length_cons, List.length_append, bas_len k]
    simp
theorem pv_bas : ∀ (k : Nat) (x : Rat), pv (bas k) x = Qr k x
  | 0, x => by show (1 : Rat) + x * 0 = 1; grind
  | k + 1, x => by
    show pv (stepB k (bas k)) x = _
    unfold stepB
    rw [pv_scale, pv_zip _ _ _ x (by simp), pv_zero_snoc]
    have h0 : pv (0 :: bas k) x = 0 + x * pv (bas k) x := rfl
    rw [h0, pv_bas k x]
    have h1 := Qr_succ k x
    have h2 := k1_ne k
    grind
theorem coef_bas_top : ∀ k : Nat, coef (bas k) k ≠ 0
  | 0 => by show (1 : Rat) ≠ 0; grind
  | k + 1 => by
    have ih := coef_bas_top k
    have hl := bas_len k
    have e : coef (bas (k + 1)) (k + 1) = (1 / ((k : Rat) + 1)) * (coef (bas k) k + (-(k : Rat)) * 0) := by
      show coef (stepB k (bas k)) (k + 1) = _
      unfold stepB coef
      rw [List.getD_eq_getElem?_getD, List.getElem?_map, List.getElem?_map]
      have hz : (List.zip (0 :: bas k) (bas k ++ [0]))[k + 1]? = some (coef (bas k) k, 0) := by
        rw [List.getElem?_zip_eq_some]
        refine ⟨?_, ?_⟩
        · rw [List.getElem?_cons_succ]
          unfold coef
          rw [List.getD_eq_getElem?_getD, List.getElem?_eq_getElem (by omega)]; rfl
        · rw [List.getElem?_append_right (by omega), hl]; simp
      rw [hz]; rfl
    rw [e]
    have h2 := k1_ne k
    intro h
    have : coef (bas k) k = 0 := by grind
    exact ih this
/-- x times a row -/
def mulR : Nat → Rat → List Rat → List Rat
  | s, p, [] => [(s : Rat) * p]
  | s, p, c :: r => ((s : Rat) * (p + c)) :: mulR (s + 1) c r
theorem mulR_len : ∀ (r : List Rat) (s : Nat) (p : Rat), (mulR s p r).length = r.length + 1
  | [], s, p => rfl
  | c :: r, s, p => by unfold mulR; rw [List.length_cons, mulR_len r]; rfl
theorem ev_mulR : ∀ (r : List Rat) (s : Nat) (p x : Rat), evR s (mulR s p r) x = (s : Rat) * p * Qr s x + x * evR s r x
  | [], s, p, x => by simp only [mulR, evR]; grind
  | c :: r, s, p, x => by
    have e1 : evR s (mulR s p (c :: r)) x = Qr s x * ((s : Rat) * (p + c)) + evR (s + 1) (mulR (s + 1) c r) x := rfl
    have e2 : evR s (c :: r) x = Qr s x * c + evR (s + 1) r x := rfl
    have h := Qr_succ s x
    have e3 : ((s + 1 : Nat) : Rat) = (s : Rat) + 1 := by simp
    rw [e1, e2, ev_mulR r (s + 1) c x, e3]
    grind
theorem coef_mulR : ∀ (r : List Rat) (s : Nat) (p : Rat), r ≠ [] → coef (mulR s p r) r.length = ((s + r.length : Nat) : Rat) * coef r (r.length - 1)
  | [], s, p, h => absurd rfl h
  | [c], s, p, _ => by
    show ((s + 1 : Nat) : Rat) * c = _
    rfl
  | c :: d :: r, s, p, _ => by
    have ih := coef_mulR (d :: r) (s + 1) c (by simp)
    have e1 : coef (mulR s p (c :: d :: r)) (c :: d :: r).length = coef (mulR (s + 1) c (d :: r)) (d :: r).length := rfl
    have e2 : coef (c :: d :: r) ((c :: d :: r).length - 1) = coef (d :: r) ((d :: r).length - 1) := rfl
    rw [e1, e2, ih, show s + 1 + (d :: r).length = s + (c :: d :: r).length by simp; omega]
def addH (c : Rat) : List Rat → List Rat
  | [] => [c]
  | y :: r => (c + y) :: r
/-- a polynomial as a row -/
def conv : List Rat → List Rat
  | [] => []
  | c :: p => addH c (mulR 0 0 (conv p))
theorem ev_addH (c : Rat) (l : List Rat) (x : Rat) : evR 0 (addH c l) x = c + evR 0 l x := by
  have q : Qr 0 x = 1 := rfl
  cases l with
  | nil => show Qr 0 x * c + 0 = c + 0; rw [q]; grind
  | cons y r => show Qr 0 x * (c + y) + evR 1 r x = c + (Qr 0 x * y + evR 1 r x); rw [q]; grind
theorem addH_len {c : Rat} {l : List Rat} (h : l ≠ []) : (addH c l).length = l.length := by
  cases l with
  | nil => exact absurd rfl h
  | cons y r => rfl
theorem mulR_ne (s : Nat) (p : Rat) (r : List Rat) : mulR s p r ≠ [] := fun h => by
  have := mulR_len r s p
  rw [h] at this
  simp at this
theorem conv_len : ∀ p : List Rat, (conv p).length = p.length
  | [] => rfl
  | c :: p => by
    show (addH c (mulR 0 0 (conv p))).length = _
    rw [addH_len (mulR_ne _ _ _), mulR_len, conv_len p]; rfl
theorem ev_conv : ∀ (p : List Rat) (x : Rat), evR 0 (conv p) x = pv p x
  | [], x => rfl
  | c :: p, x => by
    show evR 0 (addH c (mulR 0 0 (conv p))) x = c + x * pv p x
    rw [ev_addH, ev_mulR, ev_conv p x]
    have e : ((0 : Nat) : Rat) = 0 := rfl
    rw [e]; grind
theorem conv_top : ∀ (p : List Rat), p ≠ [] → coef p (p.length - 1) ≠ 0 → coef (conv p) (p.length - 1) ≠ 0
  | [], h, _ => absurd rfl h
  | [c], _, h => by
    have hc : c ≠ 0 := h
    have e0 : ((0 : Nat) : Rat) = 0 := rfl
    show c + ((0 : Nat) : Rat) * 0 ≠ 0
    rw [e0]; grind
  | c :: d :: p, _, h => by
    have h' : coef (d :: p) ((d :: p).length - 1) ≠ 0 := h
    have ih := conv_top (d :: p) (by simp) h'
    have hne : conv (d :: p) ≠ [] := fun e => by
      have := conv_len (d :: p)
      rw [e] at this
      simp at this
    have hm := coef_mulR (conv (d :: p)) 0 0 hne
    rw [conv_len] at hm
    have e1 : coef (conv (c :: d :: p)) ((c :: d :: p).length - 1) = coef (mulR 0 0 (conv (d :: p))) (d :: p).length := by
      show coef (addH c (mulR 0 0 (conv (d :: p)))) ((d :: p).length) = _
      cases q : mulR 0 0 (conv (d :: p)) with
      | nil => exact absurd q (mulR_ne _ _ _)
      | cons y r => rfl
    rw [e1, hm]
    have hp : (((0 + (d :: p).length : Nat)) : Rat) ≠ 0 := fun e => by
      have := Rat.natCast_inj.mp (show ((0 + (d :: p).length : Nat) : Rat) = ((0 : Nat) : Rat) from e)
      simp at this
    intro e
    rcases Rat.mul_eq_zero.mp e with e | e
    · exact hp e
    · exact ih e
/-- a polynomial that is 0 everywhere has no terms -/
theorem pv_nil {p : List Rat} (ht : Trim p) (h : ∀ n : Nat, pv p (n : Rat) = 0) : p = [] := by
  rcases List.eq_nil_or_concat p with rfl | ⟨r, z, rfl⟩
  · rfl
  · exfalso
    rw [List.concat_eq_append] at ht h
    have hz : z ≠ 0 := fun e => by
      subst e
      have h' : trim (r ++ [0]) = r ++ [0] := ht
      rw [trim_snoc_zero] at h'
      have := trim_le r
      rw [h'] at this
      simp at this
      omega
    have hc : coef (r ++ [z]) ((r ++ [z]).length - 1) = z := by
      unfold coef
      rw [List.getD_eq_getElem?_getD]
      simp
    have ht2 := conv_top (r ++ [z]) (by simp) (by rw [hc]; exact hz)
    have hnil : trim (conv (r ++ [z])) = [] := by
      refine ev_ext (trim_trim _) rfl fun n => ?_
      rw [ev_trim, ev_conv, h n]; rfl
    have : coef (conv (r ++ [z])) ((r ++ [z]).length - 1) = 0 := by
      rw [← coef_trim, hnil]
      rfl
    exact ht2 this
theorem pv_sub : ∀ (a b : List Rat) (x : Rat), pv (lessR a b) x = pv a x - pv b x := by
  intro a b x
  unfold lessR zipR
  rw [pv_trim]
  have hl : (wideR a (max a.length b.length)).length = (wideR b (max a.length b.length)).length := by
    rw [wideR_len (by omega), wideR_len (by omega)]
  have hw : ∀ (l : List Rat) (n : Nat), pv (wideR l n) x = pv l x := fun l n => by
    unfold wideR
    induction n - l.length with
    | zero => simp
    | succ m ih => rw [List.replicate_succ', ← List.append_assoc, pv_zero_snoc]; exact ih
  have hz := pv_zip (-1) _ _ x hl
  have e : ((List.zip (wideR a (max a.length b.length)) (wideR b (max a.length b.length))).map fun p => p.1 - p.2) = ((List.zip (wideR a (max a.length b.length)) (wideR b (max a.length b.length))).map fun p => p.1 + (-1) * p.2) := List.map_congr_left fun p _ => by grind
  show pv ((List.zip _ _).map fun p => p.1 - p.2) x = _
  rw [e, hz, hw, hw]; grind
/-- polynomials that agree at all n are one -/
theorem pv_ext {a b : List Rat} (ha : Trim a) (hb : Trim b) (h : ∀ n : Nat, pv a (n : Rat) = pv b (n : Rat)) : a = b := by
  have h0 : lessR a b = [] := pv_nil (trim_trim _) fun n => by rw [pv_sub, h n]; grind
  exact (lessR_nil ha hb).mp h0
end LJ
namespace LJ
open PySem L2 DL LR
theorem bas_num : ∀ k : Fin 11, ∀ c ∈ bas k.1, c.num.natAbs < 2 ^ 30 ∧ c.den < 2 ^ 30 := by decide +kernel
theorem bas_sz {k : Nat} (h : k ≤ 10) : SzA 30 30 (bas k) := fun c hc => ⟨(bas_num ⟨k, by omega⟩ c hc).1, (bas_num ⟨k, by omega⟩ c hc).2⟩
theorem inv_num : ∀ k : Fin 11, (1 / ((k.1 : Nat) : Rat) + 0 = 1 / ((k.1 : Nat) : Rat)) ∧ (1 / (((k.1 : Nat) : Rat) + 1)).num = 1 ∧ (1 / (((k.1 : Nat) : Rat) + 1)).den = k.1 + 1 := by decide +kernel
theorem fr_inv {k : Nat} (h : k ≤ 10) : (.tuple [.int 1, .int ((k : Int) + 1)] : PyData) = fr (1 / ((k : Rat) + 1)) := by
  obtain ⟨_, h1, h2⟩ := inv_num ⟨k, by omega⟩
  unfold fr
  rw [h1, h2]
  rfl
def addP (P : List Rat) (c : Rat) (k n : Nat) : List Rat := (List.zip P (wideR (bas k) n)).map fun p => p.1 + c * p.2
theorem addP_len {P : List Rat} {c : Rat} {k n : Nat} (hP : P.length = n) (hk : k < n) : (addP P c k n).length = n := by
  unfold addP
  rw [List.length_map, List.length_zip, wideR_len (by rw [bas_len]; omega), hP]; simp
theorem pv_wide (l : List Rat) (n : Nat) (x : Rat) : pv (wideR l n) x = pv l x := by
  unfold wideR
  induction n - l.length with
  | zero => simp
  | succ m ih => rw [List.replicate_succ', ← List.append_assoc, pv_zero_snoc]; exact ih
theorem pv_addP {P : List Rat} {c : Rat} {k n : Nat} (hP : P.length = n) (hk : k < n) (x : Rat) : pv (addP P c k n) x = pv P x + c * Qr k x := by
  unfold addP
  rw [pv_zip c P (wideR (bas k) n) x (by rw [wideR_len (by rw [bas_len]; omega), hP]), pv_wide, pv_bas]
theorem poly_step {a P : List Rat} {c : Rat} {k n : Nat} (ha : a.length = n) (hn : n ≤ 10) (hk : k < n) (hP : P.length = n) (sP : SzA 300000 3000 P) (sc : Sz 200000 2000 c) :
    LR.tlb_row_poly_1 (rowT a) (rowL P, rowL (bas k)) (.int (k : Int), fr c) = pure (rowL (addP P c k n), rowL (bas (k + 1))) := by
  have hb := bas_sz (show k ≤ 10 by omega)
  have hbl := bas_len k
  have hw := t_wide_eq (l := bas k) (n := n) (rowL (bas k)) (.inr rfl) (by omega) (by omega)
  have sw : SzA 30 30 (wideR (bas k) n) := hb.wide (by omega)
  have m1 : mapG (fun p : Rat × Rat => LR.t_fraction_times (fr c) (fr p.2) >>= fun y8 => LR.t_fraction_sum (fr p.1) y8) (List.zip P (wideR (bas k) n)) = pure ((addP P c k n).map fr) := by
    unfold addP
    refine mapG_enc fr (fun p : Rat × Rat => p.1 + c * p.2) fun p hp => ?_
    have s1 := sP _ (List.of_mem_zip hp).1
    have s2 := sw _ (List.of_mem_zip hp).2
    rw [t_fraction_times_eq (sc.up (by omega) (by omega)) (s2.up (by omega) (by omega)), pure_bind]
    exact t_fraction_sum_eq (s1.up (by omega) (by omega)) ((sc.mul s2).up (by omega) (by omega))
  have zk : Sz 30 1 (((k : Int)) : Rat) := Sz.int (show ((k : Int)).natAbs < 2 ^ 30 by omega)
  have ek : (((k : Int)) : Rat) = (k : Rat) := rfl
  have m2 : mapG (fun p : Rat × Rat => LR.t_fraction_times (fr ((k : Int) : Rat)) (fr p.2) >>= fun y8 => LR.t_fraction_less (fr p.1) y8) (List.zip (0 :: bas k) (bas k ++ [0])) = pure (((List.zip (0 :: bas k) (bas k ++ [0])).map fun p => p.1 + (-(k : Rat)) * p.2).map fr) := by
    refine mapG_enc fr (fun p : Rat × Rat => p.1 + (-(k : Rat)) * p.2) fun p hp => ?_
    have s1 : Sz 30 30 p.1 := by
      rcases List.mem_cons.mp (List.of_mem_zip hp).1 with h | h
      · rw [h]; exact (Sz.zero (m := 30)).up (by omega) (by omega)
      · exact hb _ h
    have s2 : Sz 30 30 p.2 := by
      rcases List.mem_append.mp (List.of_mem_zip hp).2 with h | h
      · exact hb _ h
      · rw [List.mem_singleton.mp h]; exact (Sz.zero (m := 30)).up (by omega) (by omega)
    rw [t_fraction_times_eq (zk.up (by omega) (by omega)) (s2.up (by omega) (by omega)), pure_bind, t_fraction_less_eq (s1.up (by omega) (by omega)) ((zk.mul s2).up (by omega) (by omega)), ek]
    rw [show p.1 - (k : Rat) * p.2 = p.1 + (-(k : Rat)) * p.2 by grind]
  have sb1 := bas_sz (show k + 1 ≤ 10 by omega)
  have m3 : mapG (fun x : Rat => LR.t_fraction_times (fr (1 / ((k : Rat) + 1))) (fr x)) ((List.zip (0 :: bas k) (bas k ++ [0])).map fun p => p.1 + (-(k : Rat)) * p.2) = pure ((bas (k + 1)).map fr) := by
    show _ = pure ((stepB k (bas k)).map fr)
    unfold stepB
    refine mapG_enc fr (fun x : Rat => (1 / ((k : Rat) + 1)) * x) fun x hx => ?_
    obtain ⟨p, hp, rfl⟩ := List.mem_map.mp hx
    obtain ⟨_, h1, h2⟩ := inv_num ⟨k, by omega⟩
    have si : Sz 30 30 (1 / ((k : Rat) + 1)) := ⟨by rw [show (1 / ((k : Rat) + 1)).num = 1 from h1]; decide, by rw [show (1 / ((k : Rat) + 1)).den = k + 1 from h2]; omega⟩
    have s1 : Sz 30 30 p.1 := by
      rcases List.mem_cons.mp (List.of_mem_zip hp).1 with h | h
      · rw [h]; exact (Sz.zero (m := 30)).up (by omega) (by omega)
      · exact hb _ h
    have s2 : Sz 30 30 p.2 := by
      rcases List.mem_append.mp (List.of_mem_zip hp).2 with h | h
      · exact hb _ h
      · rw [List.mem_singleton.mp h]; exact (Sz.zero (m := 30)).up (by omega) (by omega)
    have ss : Sz 101 61 (p.1 - (k : Rat) * p.2) := (s1.sub (zk.mul s2) (c := 100) (by omega) (by omega)).up (by omega) (by omega)
    rw [show p.1 - (k : Rat) * p.2 = p.1 + (-(k : Rat)) * p.2 by grind] at ss
    exact t_fraction_times_eq (si.up (by omega) (by omega)) (ss.up (by omega) (by omega))
  have e0 : (rowL (0 :: bas k) : PyData) = .list (fr 0 :: (bas k).map fr) := rfl
  have zz1 := zipped_fr P (wideR (bas k) n)
  have zz2 := zipped_fr (0 :: bas k) (bas k ++ [0])
  rw [List.map_cons, List.map_append, List.map_cons, List.map_nil] at zz2
  have la : (rowT a : PyData) = .tuple (a.map fr) := rfl
  have hlen : DL.pyLen [rowT a] = some (.d (.int (n : Int))) := by rw [len_t, List.length_map, ha]
  unfold LR.tlb_row_poly_1
  simp only [pure_bind, sNil_p, sCons_p, sCallB_p, hlen, sOp_d, hw, sZip_l, zz1, sCompA_p, mapG_map, un2_p, opt_some, m1]
  rw [sSz_eq _ (by rw [List.length_map, addP_len hP hk]; omega), pure_bind]
  simp only [sStar_l, List.append_nil, sCons_p, fr_zero, sLst_p]
  rw [sSz_eq PyData.list (by simp; omega), sSz_eq PyData.list (by simp; omega)]
  simp only [sZip_l, zz2, mapG_map, un2_p, opt_some, sTup_p, sSz_2, fr_int, m2, pure_bind, sCompA_p]
  rw [sSz_eq _ (by simp; omega), pure_bind]
  rw [mapG_map] at m3
  simp only [sNil_p, sCons_p, sBin_p, pyAdd_ii, sOp_d, sItems_l, sCompA_p, mapG_map, un1_p, opt_some, pure_bind, sTup_p, sSz_2, fr_inv (show k ≤ 10 by omega), m3]
  rw [sSz_eq _ (by rw [List.length_map, bas_len]; omega), pure_bind]
end LJ
namespace LJ
open PySem L2 DL LR
theorem SzA.addP {A B M K c0 k n : Nat} {P : List Rat} {c : Rat} (sP : SzA A B P) (sc : Sz M K c) (hk : k ≤ 10) (h1 : A + (K + 30) ≤ c0) (h2 : M + 30 + B ≤ c0) : SzA (c0 + 1) (B + (K + 30)) (addP P c k n) := fun x hx => by
  unfold LJ.addP at hx
  obtain ⟨p, hp, rfl⟩ := List.mem_map.mp hx
  exact (sP _ (List.of_mem_zip hp).1).add (sc.mul ((bas_sz hk).wide (by omega) _ (List.of_mem_zip hp).2)) h1 h2
def polyR (n : Nat) : Nat → List Rat → List Rat → List Rat
  | _, [], P => P
  | k, c :: r, P => polyR n (k + 1) r (addP P c k n)
theorem polyR_len {n : Nat} : ∀ (r : List Rat) (k : Nat) (P : List Rat), P.length = n → k + r.length ≤ n → (polyR n k r P).length = n
  | [], k, P, hP, _ => hP
  | c :: r, k, P, hP, h => polyR_len r (k + 1) _ (addP_len hP (by simp at h; omega)) (by simp at h; omega)
theorem pv_polyR {n : Nat} : ∀ (r : List Rat) (k : Nat) (P : List Rat), P.length = n → k + r.length ≤ n → ∀ x, pv (polyR n k r P) x = pv P x + evR k r x
  | [], k, P, hP, _, x => by show pv P x = pv P x + 0; grind
  | c :: r, k, P, hP, h, x => by
    show pv (polyR n (k + 1) r (addP P c k n)) x = pv P x + (Qr k x * c + evR (k + 1) r x)
    rw [pv_polyR r (k + 1) _ (addP_len hP (by simp at h; omega)) (by simp at h; omega) x, pv_addP hP (by simp at h; omega)]
    grind
theorem poly_fold {a : List Rat} {n M K : Nat} (ha : a.length = n) (hn : n ≤ 10) (hM : M ≤ 2000) (hK : K ≤ 200) : ∀ (r : List Rat) (k : Nat) (P : List Rat), P.length = n → k + r.length = n → (∀ c ∈ r, Sz M K c) → SzA (M + 30 + k * (K + 32) + 1) (k * (K + 30) + 1) P →
    foldS (fun v (p : Rat × Nat) => LR.tlb_row_poly_1 (rowT a) v (.int (p.2 : Nat), fr p.1)) (r.zipIdx k) (rowL P, rowL (bas k)) = pure (rowL (polyR n k r P), rowL (bas (k + r.length)))
  | [], k, P, _, _, _, _ => rfl
  | c :: r, k, P, hP, h, hs, sP => by
    rw [List.length_cons] at h
    have e1 : (k + 1) * (K + 32) = k * (K + 32) + (K + 32) := Nat.succ_mul _ _
    have e2 : (k + 1) * (K + 30) = k * (K + 30) + (K + 30) := Nat.succ_mul _ _
    have e3 : k * (K + 32) ≤ 10 * 232 := Nat.mul_le_mul (by omega) (by omega)
    have e4 : k * (K + 30) ≤ 10 * 230 := Nat.mul_le_mul (by omega) (by omega)
    have e5 : k * (K + 32) = k * (K + 30) + k * 2 := by rw [← Nat.mul_add]
    have st := poly_step (c := c) ha hn (show k < n by omega) hP (sP.up (by omega) (by omega)) ((hs c (by simp)).up (by omega) (by omega))
    have s2 := SzA.addP (n := n) (c0 := M + 30 + (k + 1) * (K + 32)) sP (hs c (by simp)) (show k ≤ 10 by omega) (by omega) (by omega)
    rw [List.zipIdx_cons, foldS_cons, st, pure_bind, poly_fold ha hn hM hK r (k + 1) _ (addP_len hP (by omega)) (by omega) (fun d hd => hs d (List.mem_cons_of_mem _ hd)) (s2.up (by omega) (by omega))]
    rw [show k + 1 + r.length = k + (c :: r).length by simp; omega]
    rfl
end LJ
namespace LJ
open PySem L2 DL LR
theorem coef_addP {P : List Rat} {c : Rat} {k n : Nat} (hP : P.length = n) (hk : k < n) (i : Nat) (hi : i < n) : coef (addP P c k n) i = coef P i + c * coef (bas k) i := by
  have hw : (wideR (bas k) n).length = n := wideR_len (by rw [bas_len]; omega)
  have e1 : P[i]? = some (coef P i) := by unfold coef; rw [List.getD_eq_getElem?_getD, List.getElem?_eq_getElem (by omega)]; rfl
  have e2 : (wideR (bas k) n)[i]? = some (coef (bas k) i) := by
    rw [← coef_wide (bas k) n i]
    unfold coef; rw [List.getD_eq_getElem?_getD, List.getElem?_eq_getElem (by omega)]; rfl
  have hz : (List.zip P (wideR (bas k) n))[i]? = some (coef P i, coef (bas k) i) := by
    rw [List.getElem?_zip_eq_some]; exact ⟨e1, e2⟩
  have : coef (addP P c k n) i = ((addP P c k n)[i]?).getD 0 := by unfold coef; rw [List.getD_eq_getElem?_getD]
  rw [this]
  unfold addP
  rw [List.getElem?_map, hz]; rfl
theorem polyR_top {n : Nat} : ∀ (r : List Rat) (k : Nat) (P : List Rat), P.length = n → k + r.length = n → r ≠ [] → coef P (n - 1) = 0 → coef (polyR n k r P) (n - 1) = coef r (r.length - 1) * coef (bas (n - 1)) (n - 1)
  | [], k, P, _, _, h, _ => absurd rfl h
  | [c], k, P, hP, hk, _, h0 => by
    have hk1 : k = n - 1 := by simp at hk; omega
    show coef (addP P c k n) (n - 1) = c * _
    rw [coef_addP hP (by simp at hk; omega) (n - 1) (by simp at hk; omega), h0, hk1]; grind
  | c :: d :: r, k, P, hP, hk, _, h0 => by
    have hkn : k + (r.length + 1 + 1) = n := by simpa using hk
    have ih := polyR_top (d :: r) (k + 1) (addP P c k n) (addP_len hP (by omega)) (by simp; omega) (by simp) (by
      rw [coef_addP hP (by omega) (n - 1) (by omega), h0, coef_beyond (l := bas k) (by rw [bas_len]; omega)]; grind)
    show coef (polyR n (k + 1) (d :: r) (addP P c k n)) (n - 1) = _
    rw [ih]; rfl
def polyOf (a : List Rat) : List Rat := trim (polyR a.length 0 a (List.replicate a.length 0))
theorem pv_zeros (n : Nat) (x : Rat) : pv (List.replicate n (0 : Rat)) x = 0 := by
  induction n with
  | zero => rfl
  | succ n ih => rw [List.replicate_succ]; simp only [pv]; rw [ih]; grind
theorem pv_polyOf (a : List Rat) (x : Rat) : pv (polyOf a) x = evR 0 a x := by
  unfold polyOf
  rw [pv_trim, pv_polyR a 0 _ (by simp) (by omega) x, pv_zeros]; grind
theorem t_row_poly_eq {a : List Rat} {M K : Nat} (hn : a.length ≤ 10) (hM : M ≤ 2000) (hK : K ≤ 200) (hs : SzA M K a) : LR.t_row_poly (rowT a) = pure (rowT (polyOf a)) := by
  have hf := poly_fold (a := a) (n := a.length) rfl hn hM hK a 0 (List.replicate a.length 0) (by simp) (by omega) hs (fun c hc => by
    rw [(List.mem_replicate.mp hc).2]; exact (Sz.zero (m := M + 30 + 0 * (K + 32) + 1)).up (by omega) (by omega))
  have hl := polyR_len (n := a.length) a 0 (List.replicate a.length 0) (by simp) (by omega)
  have hr := t_row_of_eq (l := polyR a.length 0 a (List.replicate a.length 0)) (by omega)
  have e1 : (rowL (bas 0) : PyData) = .list [fr 1] := rfl
  rw [e1] at hf
  unfold LR.t_row_poly polyOf
  simp only [sNil_p, sCons_p, sLst_p, sSz_1, sCallB_p, len_t, List.length_map, sOp_d, sBin_p, fr_zero, fr_one, line_mul a.length (by omega), sOp_fr, two_p, opt_some, pure_bind, sEnum_t, numbered_fr, foldS_map, un2_p, hf]
  exact hr
end LJ
namespace LJ
open PySem L2 DL LR
theorem trim_last {a : List Rat} (h : Trim a) (h0 : a ≠ []) : coef a (a.length - 1) ≠ 0 := by
  rcases List.eq_nil_or_concat a with rfl | ⟨r, z, rfl⟩
  · exact absurd rfl h0
  · rw [List.concat_eq_append] at h ⊢
    have e : coef (r ++ [z]) ((r ++ [z]).length - 1) = z := by
      unfold coef
      rw [List.getD_eq_getElem?_getD]
      simp
    rw [e]
    intro e
    subst e
    have h' : trim (r ++ [0]) = r ++ [0] := h
    rw [trim_snoc_zero] at h'
    have := trim_le r
    rw [h'] at this
    simp at this
    omega
theorem polyOf_len {a : List Rat} (h : Trim a) : (polyOf a).length = a.length := by
  by_cases h0 : a = []
  · subst h0; rfl
  · have hal : a.length ≠ 0 := fun e => h0 (List.length_eq_zero_iff.mp e)
    have ht := polyR_top (n := a.length) a 0 (List.replicate a.length 0) (by simp) (by omega) h0 (by
      unfold coef
      rw [List.getD_eq_getElem?_getD, List.getElem?_replicate]
      split <;> rfl)
    have hne : coef (polyOf a) (a.length - 1) ≠ 0 := by
      unfold polyOf
      rw [coef_trim, ht]
      intro e
      rcases Rat.mul_eq_zero.mp e with e | e
      · exact trim_last h h0 e
      · exact coef_bas_top _ e
    have h1 : a.length - 1 < (polyOf a).length := by
      rcases Nat.lt_or_ge (a.length - 1) (polyOf a).length with z | z
      · exact z
      · exact absurd (coef_beyond z) hne
    have h2 : (polyOf a).length ≤ a.length := by
      have := trim_le (polyR a.length 0 a (List.replicate a.length 0))
      rw [polyR_len (n := a.length) a 0 (List.replicate a.length 0) (by simp) (by omega)] at this
      exact this
    omega
/-- a row's own values lead back to it -/
theorem newt_vals {a u : List Rat} (ha : Trim a) (hu : u.length = a.length) (h : ∀ k : Nat, k < u.length → coef u k = evR 0 a (k : Rat)) : trim (newt u.length u) = a := by
  refine (apart_nil (m := u.length) (trim_trim _) ha (by have := trim_le (newt u.length u); rw [newt_len _ _ rfl] at this; omega) (by omega)).mp ?_
  unfold apartL
  refine List.filter_eq_nil_iff.mpr fun k hk => ?_
  have hk' := List.mem_range.mp hk
  rw [ev_trim, ev_newt u.length u rfl k hk', h k hk', decide_eq_true rfl]; simp
end LJ
namespace LJ
open PySem L2 DL LR
/-- Horner's way: the terms from the last to the first -/
theorem horner_fold {q M K : Nat} (hq : q < 16) (hM : M ≤ 2000) (hK : K ≤ 300) : ∀ (r : List Rat) (acc : Rat) (s : Nat), (∀ c ∈ r, Sz M K c) → s + r.length ≤ 12 → Sz (M + s * (K + 8) + 1) (s * (K + 1) + 1) acc →
    foldS (fun v (c : Rat) => LR.tlb_row_of_poly_1 (.int (q : Int)) v (fr c)) r (fr acc) = pure (fr (r.foldl (fun v c => v * (q : Rat) + c) acc))
  | [], acc, s, _, _, _ => rfl
  | c :: r, acc, s, h, hs, ha => by
    rw [List.length_cons] at hs
    have e1 : (s + 1) * (K + 8) = s * (K + 8) + (K + 8) := Nat.succ_mul _ _
    have e2 : (s + 1) * (K + 1) = s * (K + 1) + (K + 1) := Nat.succ_mul _ _
    have e3 : s * (K + 8) ≤ 12 * 308 := Nat.mul_le_mul (by omega) (by omega)
    have e4 : s * (K + 1) ≤ 12 * 301 := Nat.mul_le_mul (by omega) (by omega)
    have e5 : s * (K + 8) = s * (K + 1) + s * 7 := by rw [← Nat.mul_add]
    have zq : Sz 4 1 (((q : Int)) : Rat) := Sz.int (show ((q : Int)).natAbs < 2 ^ 4 by omega)
    have sc := h c (by simp)
    have sm := ha.mul zq
    have t1 := t_fraction_times_eq (ha.up (show _ ≤ 400000 by omega) (show _ ≤ 4000 by omega)) (zq.up (show _ ≤ 400000 by omega) (show _ ≤ 4000 by omega))
    have t2 := t_fraction_sum_eq (a := acc * ((q : Int) : Rat)) (b := c) (sm.up (by omega) (by omega)) (sc.up (by omega) (by omega))
    have st : LR.tlb_row_of_poly_1 (.int (q : Int)) (fr acc) (fr c) = pure (fr (acc * (q : Rat) + c)) := by
      unfold LR.tlb_row_of_poly_1
      simp only [pure_bind, sNil_p, sCons_p, sTup_p, sSz_2, fr_int, t1, t2]
      rfl
    have sn : Sz (M + (s + 1) * (K + 8) + 1) ((s + 1) * (K + 1) + 1) (acc * (q : Rat) + c) := ((sm.add sc (c := M + (s + 1) * (K + 8)) (by omega) (by omega))).up (by omega) (by omega)
    rw [foldS_cons, st, pure_bind, List.foldl_cons]
    exact horner_fold hq hM hK r _ (s + 1) (fun d hd => h d (List.mem_cons_of_mem _ hd)) (by omega) sn
theorem horner : ∀ (p : List Rat) (x : Rat), p.reverse.foldl (fun v c => v * x + c) 0 = pv p x
  | [], x => rfl
  | c :: p, x => by
    rw [List.reverse_cons, List.foldl_append, horner p x]
    show pv p x * x + c = c + x * pv p x
    grind
end LJ
namespace LJ
open PySem L2 DL LR
def vals (p : List Rat) (n : Nat) : List Rat := (List.range n).map fun q : Nat => pv p (q : Rat)
theorem vals_len (p : List Rat) (n : Nat) : (vals p n).length = n := by unfold vals; simp
theorem coef_vals {p : List Rat} {n k : Nat} (h : k < n) : coef (vals p n) k = pv p (k : Rat) := by
  unfold coef vals
  rw [List.getD_eq_getElem?_getD, List.getElem?_map, List.getElem?_range h]; rfl
theorem t_row_of_poly_eq {p : List Rat} {M K : Nat} (x : PyData) (hx : x = rowT p) (hl : p.length ≤ 12) (hM : M ≤ 2000) (hK : K ≤ 300) (hs : SzA M K p) (hd : ∀ j, SzA 400000 4000 (difN j (vals p p.length))) : LR.t_row_of_poly x = pure (rowT (trim (newt p.length (vals p p.length)))) := by
  subst hx
  have hrev : pyRev (rowT p) = some (.d (.tuple (p.reverse.map fr))) := by
    show some (RV.d (.tuple (p.map fr).reverse)) = _
    rw [List.map_reverse]
  have lap : ∀ (l : List Rat) (q : Nat), l.length ≤ 1000 → q < 16 → LR.tlb_row_of_poly_2 (rowT p) (rowL l) (.int (q : Int)) = pure (rowL (l ++ [pv p (q : Rat)])) := fun l q hll hq => by
    have hf := horner_fold hq hM hK p.reverse 0 0 (fun c hc => hs c (List.mem_reverse.mp hc)) (by simp; omega) ((Sz.zero (m := M + 0 * (K + 8) + 1)).up (by omega) (by omega))
    rw [horner] at hf
    unfold LR.tlb_row_of_poly_2
    simp only [pure_bind, sUn_p, hrev, sOp_d, sItems_t, foldS_map, un1_p, opt_some, fr_zero, hf]
    rw [show rowL l = .list (l.map fr) from rfl, appS_eq (by simp; omega), pure_bind]
    simp [rowL]
  have loop : ∀ r j : Nat, j + r = p.length → foldS (fun v (q : Nat) => LR.tlb_row_of_poly_2 (rowT p) v (.int (q : Int))) ((List.range r).map fun t => j + t) (rowL (vals p j)) = pure (rowL (vals p p.length)) := by
    intro r
    induction r with
    | zero => intro j e; simp at e; subst e; rfl
    | succ r ih =>
      intro j e
      have st := lap (vals p j) j (by rw [vals_len]; omega) (by omega)
      have es : vals p j ++ [pv p (j : Rat)] = vals p (j + 1) := by unfold vals; rw [List.range_succ, List.map_append]; rfl
      rw [es] at st
      rw [List.range_succ_eq_map, List.map_cons, foldS_cons, Nat.add_zero, st, pure_bind, List.map_map]
      have em : (List.range r).map ((fun t => j + t) ∘ Nat.succ) = (List.range r).map fun t => j + 1 + t := List.map_congr_left fun m _ => by show j + (m + 1) = _; omega
      rw [em]
      exact ih (j + 1) (by omega)
  have h0 := loop p.length 0 (by omega)
  have er : rngTo 0 (p.length : Int) = some (((List.range p.length).map fun t => 0 + t).map fun q : Nat => PyData.int (q : Int)) := by
    rw [rng0 (by omega)]
    unfold ints0
    rw [List.map_map, List.map_map]
    congr 2
    funext i
    show PyData.int ((i : Nat) : Int) = PyData.int ((0 + i : Nat) : Int)
    rw [Nat.zero_add]
  have hth := t_row_through_eq (u := vals p p.length) (rowL (vals p p.length)) (.inr rfl) (by rw [vals_len]; omega) hd
  rw [vals_len] at hth
  have h0' : foldS (fun v (q : Nat) => LR.tlb_row_of_poly_2 (rowT p) v (.int (q : Int))) ((List.range p.length).map fun t => 0 + t) (.list []) = _ := h0
  unfold LR.t_row_of_poly
  simp only [sNil_p, sLst_p, sSz_nil, sCons_p, sCallB_p, len_t, List.length_map, sOp_d, sRange1_p, er, opt_some, pure_bind]
  rw [foldS_map]
  simp only [un1_p, opt_some, pure_bind]
  have h1 : (rowT p : PyData) = .tuple (p.map fr) := rfl
  rw [h0', pure_bind]
  exact hth
end LJ
namespace LJ
open PySem L2 DL LR
theorem polyR_sz {n M K : Nat} (hM : M ≤ 2000) (hK : K ≤ 200) : ∀ (r : List Rat) (k : Nat) (P : List Rat), k + r.length ≤ 10 → (∀ c ∈ r, Sz M K c) → SzA (M + 30 + k * (K + 32) + 1) (k * (K + 30) + 1) P →
    SzA (M + 30 + (k + r.length) * (K + 32) + 1) ((k + r.length) * (K + 30) + 1) (polyR n k r P)
  | [], k, P, _, _, sP => sP
  | c :: r, k, P, h, hs, sP => by
    rw [List.length_cons] at h
    have e1 : (k + 1) * (K + 32) = k * (K + 32) + (K + 32) := Nat.succ_mul _ _
    have e2 : (k + 1) * (K + 30) = k * (K + 30) + (K + 30) := Nat.succ_mul _ _
    have e5 : k * (K + 32) = k * (K + 30) + k * 2 := by rw [← Nat.mul_add]
    have s2 := SzA.addP (n := n) (c0 := M + 30 + (k + 1) * (K + 32)) sP (hs c (by simp)) (show k ≤ 10 by omega) (by omega) (by omega)
    have := polyR_sz (n := n) hM hK r (k + 1) _ (by omega) (fun d hd => hs d (List.mem_cons_of_mem _ hd)) (s2.up (Nat.le_refl _) (by omega))
    rw [show k + (c :: r).length = k + 1 + r.length by simp; omega]
    exact this
theorem polyOf_sz {a : List Rat} {M K : Nat} (hM : M ≤ 2000) (hK : K ≤ 200) (hn : a.length ≤ 10) (hs : SzA M K a) : SzA (M + 30 + a.length * (K + 32) + 1) (a.length * (K + 30) + 1) (polyOf a) := by
  have := polyR_sz (n := a.length) hM hK a 0 (List.replicate a.length 0) (by omega) hs (fun c hc => by
    rw [(List.mem_replicate.mp hc).2]; exact (Sz.zero (m := M + 30 + 0 * (K + 32) + 1)).up (by omega) (by omega))
  rw [Nat.zero_add] at this
  exact this.trim
theorem polyOf_trim (a : List Rat) : Trim (polyOf a) := trim_trim _
theorem poly_there {c : List Rat} (h : Trim c) : trim (newt (polyOf c).length (vals (polyOf c) (polyOf c).length)) = c := by
  have hl := polyOf_len h
  have := newt_vals (a := c) (u := vals (polyOf c) (polyOf c).length) h (by rw [vals_len, hl]) fun k hk => by
    rw [vals_len] at hk
    rw [coef_vals hk, pv_polyOf]
  rw [vals_len] at this
  exact this
theorem poly_back {c : List Rat} (h : Trim c) : polyOf (trim (newt c.length (vals c c.length))) = c := by
  have hr : trim (newt c.length (vals c c.length)) = trim (conv c) := by
    have l1 : (newt c.length (vals c c.length)).length = c.length := newt_len _ _ (vals_len _ _)
    have l2 := conv_len c
    refine (apart_nil (m := c.length) (trim_trim _) (trim_trim _) (by have := trim_le (newt c.length (vals c c.length)); omega) (by have := trim_le (conv c); omega)).mp ?_
    unfold apartL
    refine List.filter_eq_nil_iff.mpr fun k hk => ?_
    have hk' := List.mem_range.mp hk
    rw [ev_trim, ev_trim, ev_newt c.length _ (vals_len _ _) k hk', coef_vals hk', ev_conv, decide_eq_true rfl]; simp
  rw [hr]
  refine pv_ext (polyOf_trim _) h fun n => ?_
  rw [pv_polyOf, ev_trim, ev_conv]
/-! multiples of one number -/
def Mu (m : Int) (r : Rat) : Prop := ∃ z : Int, r = ((m * z : Int) : Rat)
theorem Mu.sub {m : Int} {a b : Rat} (ha : Mu m a) (hb : Mu m b) : Mu m (a - b) := by
  obtain ⟨z, rfl⟩ := ha
  obtain ⟨w, rfl⟩ := hb
  exact ⟨z - w, by rw [← Rat.intCast_sub, Int.mul_sub]⟩
theorem Mu.add {m : Int} {a b : Rat} (ha : Mu m a) (hb : Mu m b) : Mu m (a + b) := by
  obtain ⟨z, rfl⟩ := ha
  obtain ⟨w, rfl⟩ := hb
  exact ⟨z + w, by rw [← Rat.intCast_add, Int.mul_add]⟩
theorem Mu.zero (m : Int) : Mu m 0 := ⟨0, by rw [Int.mul_zero]; rfl⟩
theorem Mu.times {m : Int} {a : Rat} (ha : Mu m a) (i : Int) : Mu m ((i : Rat) * a) := by
  obtain ⟨z, rfl⟩ := ha
  exact ⟨i * z, by rw [← Rat.intCast_mul]; congr 1; rw [Int.mul_left_comm]⟩
theorem dif_mem {u : List Rat} {c : Rat} (h : c ∈ dif u) : ∃ a b, a ∈ u ∧ b ∈ u ∧ c = b - a := by
  rw [← zip_dif] at h
  obtain ⟨p, hp, rfl⟩ := List.mem_map.mp h
  exact ⟨p.1, p.2, (List.of_mem_zip hp).1, List.mem_of_mem_drop (List.of_mem_zip hp).2, rfl⟩
theorem mu_newt {m : Int} : ∀ (n : Nat) (u : List Rat), (∀ c ∈ u, Mu m c) → ∀ c ∈ newt n u, Mu m c
  | 0, u, h, c, hc => by cases u <;> cases hc
  | n + 1, [], h, c, hc => by cases hc
  | n + 1, a :: r, h, c, hc => by
    unfold newt at hc
    rcases List.mem_cons.mp hc with rfl | hc
    · exact h c (by simp)
    · refine mu_newt n (dif (a :: r)) (fun d hd => ?_) c hc
      obtain ⟨x, y, hx, hy, rfl⟩ := dif_mem hd
      exact (h y hy).sub (h x hx)
theorem mu_ev {m n : Int} : ∀ (l : List Rat) (k : Nat), (∀ c ∈ l, Mu m c) → Mu m (evR k l (n : Rat))
  | [], k, _ => Mu.zero m
  | c :: l, k, h => by
    obtain ⟨z, hz⟩ := Qr_int k n
    rw [evR, hz]
    exact ((h c (by simp)).times z).add (mu_ev l (k + 1) fun d hd => h d (List.mem_cons_of_mem _ hd))
theorem mem_trim {c : Rat} {l : List Rat} (h : c ∈ trim l) : c ∈ l := by rw [trim_take] at h; exact List.mem_of_mem_take h
theorem mu_row {m : Int} {c : List Rat} {n : Nat} (ht : Trim c) (hl : c.length ≤ n) : (∀ x ∈ c, Mu m x) ↔ ∀ k : Nat, k < n → Mu m (evR 0 c (k : Rat)) := by
  refine ⟨fun h k _ => mu_ev (n := (k : Int)) c 0 h, fun h x hx => ?_⟩
  have e := newt_vals (a := c) (u := (List.range c.length).map fun k : Nat => evR 0 c (k : Rat)) ht (by simp) fun k hk => by
    have hk' : k < c.length := by simpa using hk
    unfold coef
    rw [List.getD_eq_getElem?_getD, List.getElem?_map, List.getElem?_range hk']; rfl
  rw [← e] at hx
  refine mu_newt _ _ (fun d hd => ?_) x (mem_trim hx)
  obtain ⟨k, hk, rfl⟩ := List.mem_map.mp hd
  exact h k (by have := List.mem_range.mp hk; omega)
theorem mu_den {r : Rat} : r.den = 1 ↔ Mu 1 r := by
  constructor
  · intro h
    refine ⟨r.num, ?_⟩
    rw [Int.one_mul]
    have := Rat.num_divInt_den r
    rw [h, Rat.divInt_eq_div] at this
    have e : ((1 : Nat) : Int) = 1 := rfl
    rw [e] at this
    grind
  · rintro ⟨z, rfl⟩
    exact Rat.den_intCast _
theorem mu_mod {m : Int} {r : Rat} (hr : Mu 1 r) : r.num % m = 0 ↔ Mu m r := by
  obtain ⟨w, rfl⟩ := hr
  rw [Rat.num_intCast]
  constructor
  · intro h
    obtain ⟨z, hz⟩ := Int.dvd_of_emod_eq_zero h
    exact ⟨z, by rw [hz]⟩
  · rintro ⟨z, hz⟩
    rw [Rat.intCast_inj.mp hz]
    exact Int.mul_emod_right _ _
end LJ
namespace LJ
open PySem L2 DL LR
/-- sixths -/
def Six (B : Nat) (c : Rat) : Prop := ∃ z : Int, c = Rat.divInt z 6 ∧ z.natAbs ≤ B
theorem Six.sub {B : Nat} {a b : Rat} (ha : Six B a) (hb : Six B b) : Six (2 * B) (a - b) := by
  obtain ⟨z, rfl, hz⟩ := ha
  obtain ⟨w, rfl, hw⟩ := hb
  refine ⟨z - w, ?_, by omega⟩
  rw [Rat.divInt_eq_div, Rat.divInt_eq_div, Rat.divInt_eq_div, Rat.intCast_sub]; grind
theorem Six.add {B C : Nat} {a b : Rat} (ha : Six B a) (hb : Six C b) : Six (B + C) (a + b) := by
  obtain ⟨z, rfl, hz⟩ := ha
  obtain ⟨w, rfl, hw⟩ := hb
  refine ⟨z + w, ?_, by omega⟩
  rw [Rat.divInt_eq_div, Rat.divInt_eq_div, Rat.divInt_eq_div, Rat.intCast_add]; grind
theorem Six.times {B : Nat} {a : Rat} (ha : Six B a) (i : Int) {N : Nat} (hi : i.natAbs ≤ N) : Six (N * B) ((i : Rat) * a) := by
  obtain ⟨z, rfl, hz⟩ := ha
  refine ⟨i * z, ?_, by rw [Int.natAbs_mul]; exact Nat.mul_le_mul hi hz⟩
  rw [Rat.divInt_eq_div, Rat.divInt_eq_div, Rat.intCast_mul]; grind
theorem Six.sz {B m : Nat} {a : Rat} (h : Six B a) (hB : B < 2 ^ m) : Sz m 3 a := by
  obtain ⟨z, rfl, hz⟩ := h
  exact sz_divInt (show z.natAbs < 2 ^ m by omega) (show (6 : Int).natAbs < 2 ^ 3 by decide) (by decide)
theorem Six.up {B C : Nat} {c : Rat} (h : Six B c) (k : B ≤ C) : Six C c := by
  obtain ⟨z, e, hz⟩ := h
  exact ⟨z, e, by omega⟩
theorem six0 (B : Nat) : Six B 0 := ⟨0, by decide +kernel, by simp⟩
theorem number_six : ∀ p ∈ ([1, 1, -1, 2, -3, 5, 7] : List Int), ∀ q ∈ ([1, 1, 1, 2, 3] : List Int), Rat.divInt p q = Rat.divInt (p * 6 / q) 6 ∧ (p * 6 / q).natAbs ≤ 42 ∧ 0 < q ∧ p.natAbs < 2 ^ 133 ∧ q.natAbs < 2 ^ 133 := by decide +kernel
theorem dif_six {u : List Rat} {B : Nat} (h : ∀ c ∈ u, Six B c) : ∀ c ∈ dif u, Six (2 * B) c := fun c hc => by
  obtain ⟨a, b, ha, hb, rfl⟩ := dif_mem hc
  exact (h b hb).sub (h a ha)
theorem pow_pos2 (n B : Nat) : B ≤ 2 ^ n * B := Nat.le_mul_of_pos_left _ (Nat.two_pow_pos n)
theorem difN_six : ∀ (j n : Nat) (u : List Rat) (B : Nat), u.length ≤ n → (∀ c ∈ u, Six B c) → ∀ c ∈ difN j u, Six (2 ^ n * B) c
  | 0, n, u, B, hl, h, c, hc => (h c hc).up (pow_pos2 n B)
  | j + 1, 0, u, B, hl, h, c, hc => by
    have : u = [] := List.length_eq_zero_iff.mp (by omega)
    subst this
    exact difN_six j 0 [] B (by simp) (fun c hc => by cases hc) c hc
  | j + 1, n + 1, u, B, hl, h, c, hc => by
    have := difN_six j n (dif u) (2 * B) (by rw [dif_len]; omega) (dif_six h) c hc
    rwa [show 2 ^ n * (2 * B) = 2 ^ (n + 1) * B by rw [Nat.pow_succ, Nat.mul_assoc]] at this
theorem newt_six : ∀ (m n : Nat) (u : List Rat) (B : Nat), u.length ≤ n → (∀ c ∈ u, Six B c) → ∀ c ∈ newt m u, Six (2 ^ n * B) c
  | 0, n, u, B, hl, h, c, hc => by cases u <;> cases hc
  | m + 1, n, [], B, hl, h, c, hc => by cases hc
  | m + 1, 0, a :: r, B, hl, h, c, hc => by simp at hl
  | m + 1, n + 1, a :: r, B, hl, h, c, hc => by
    unfold newt at hc
    rcases List.mem_cons.mp hc with rfl | hc
    · exact (h c (by simp)).up (pow_pos2 _ B)
    · have := newt_six m n (dif (a :: r)) (2 * B) (by rw [dif_len]; simp at hl ⊢; omega) (dif_six h) c hc
      rwa [show 2 ^ n * (2 * B) = 2 ^ (n + 1) * B by rw [Nat.pow_succ, Nat.mul_assoc]] at this
/-- what a polynomial of sixths is at a small number -/
theorem pv_six {q : Nat} (hq : q ≤ 7) : ∀ (n : Nat) (p : List Rat) (B : Nat), p.length ≤ n → (∀ c ∈ p, Six B c) → Six (8 ^ n * B) (pv p (q : Rat))
  | n, [], B, _, _ => six0 _
  | 0, c :: p, B, h, _ => by simp at h
  | n + 1, c :: p, B, h, hs => by
    have ih := pv_six hq n p B (by simpa using h) fun d hd => hs d (List.mem_cons_of_mem _ hd)
    have t := ih.times (q : Int) (N := 7) (by omega)
    have hp : B ≤ 8 ^ n * B := Nat.le_mul_of_pos_left _ (Nat.pow_pos (by decide))
    have e : 8 ^ (n + 1) * B = 8 ^ n * B * 8 := by rw [Nat.pow_succ]; ac_rfl
    exact ((hs c (by simp)).add t).up (by omega)
end LJ
namespace LJ
open PySem L2 DL LR
def tlb__law_through_1 (v : PyData) (q : PyData × PyData) : S (PyData) :=
  ((((pure q.2) >>= fun y4 => ((((pure v) >>= fun y2 => ((pure q.1) >>= fun y3 => t__law_row_at y2 y3)) >>= noLstS) >>= fun y5 => t__law_minus y4 y5)) >>= fun y6 => appS v y6) >>= fun v7 => pure v7)
def t__law_through (x0 : PyData) : S PyData :=
  ((sLst sNil) >>= fun v1 => (((sEnum (pure x0)) >>= fun xs_ => foldS (fun w_ x_ => S.opt (un2 x_) >>= tlb__law_through_1 w_) xs_ v1) >>= fun v10 => ((pure v10) >>= fun y11 => t__law_trimmed y11)))
def tlb__law_poly_at_1 (p1 : PyData) (v : PyData) (q : PyData) : S (PyData) :=
  ((((pure v) >>= fun y2 => ((sTup (sCons (pure p1) (sCons (pure (.int 1)) sNil))) >>= fun y3 => t__law_by y2 y3)) >>= fun y4 => ((pure q) >>= fun y5 => t__law_plus y4 y5)) >>= fun v6 => pure v6)
def t__law_poly_at (x0 x1 : PyData) : S PyData :=
  ((sTup (sCons (pure (.int 0)) (sCons (pure (.int 1)) sNil))) >>= fun v1 => (((sItems (sUn pyRev (pure x0))) >>= fun xs_ => foldS (fun w_ x_ => S.opt (un1 x_) >>= (tlb__law_poly_at_1 x1) w_) xs_ v1) >>= fun v9 => (pure v9)))
end LJ
namespace LJ
open PySem L2 DL LR
theorem thr_eq : tlb__law_through_1 = tlb__law_fault_2 := rfl
theorem t__law_through_eq {u : List Rat} (hu : u.length ≤ 8) (hsu : SzA 400000 4000 u) (hsc : SzA 300 100 (newt u.length u)) : t__law_through (rowL u) = pure (rowT (trim (newt u.length u))) := by
  have hfold := fault_fold rfl hsc hsu hu u 0 rfl (by omega)
  have hfold' : foldS (fun v (p : Rat × Nat) => tlb__law_through_1 v (.int (p.2 : Nat), fr p.1)) u.zipIdx (.list []) = _ := hfold
  have htr : t__law_trimmed (rowL (newt u.length u)) = pure (rowT (trim (newt u.length u))) := by rw [b_trimmed]; exact t__law_trimmed_eq (rowL (newt u.length u)) (.inr rfl) (by rw [newt_len _ _ rfl]; omega)
  unfold t__law_through
  simp only [pure_bind, sNil_p, sLst_p, sSz_nil, sEnum_l, numbered_fr, foldS_map, un2_p, opt_some, hfold', htr]
theorem horner2 {t : Nat} {q : Int} (hq : Zk t q) (ht : t ≤ 200) {M K : Nat} (hM : M ≤ 2000) (hK : K ≤ 300) : ∀ (r : List Rat) (acc : Rat) (s : Nat), (∀ c ∈ r, Sz M K c) → s + r.length ≤ 12 → Sz (M + s * (K + t + 4) + 1) (s * (K + 1) + 1) acc →
    foldS (fun v (c : Rat) => tlb__law_poly_at_1 (.int q) v (fr c)) r (fr acc) = pure (fr (r.foldl (fun v c => v * (q : Rat) + c) acc))
  | [], acc, s, _, _, _ => rfl
  | c :: r, acc, s, h, hs, ha => by
    rw [List.length_cons] at hs
    have e1 : (s + 1) * (K + t + 4) = s * (K + t + 4) + (K + t + 4) := Nat.succ_mul _ _
    have e2 : (s + 1) * (K + 1) = s * (K + 1) + (K + 1) := Nat.succ_mul _ _
    have e3 : s * (K + t + 4) ≤ 12 * 504 := Nat.mul_le_mul (by omega) (by omega)
    have e4 : s * (K + 1) ≤ 12 * 301 := Nat.mul_le_mul (by omega) (by omega)
    have e5 : s * (K + t + 4) = s * (K + 1) + s * (t + 3) := by rw [← Nat.mul_add]; congr 1; omega
    have zq : Sz t 1 ((q : Int) : Rat) := Sz.int hq
    have sc := h c (by simp)
    have sm := ha.mul zq
    have t1 := t__law_by_eq (ha.up (show _ ≤ 400000 by omega) (show _ ≤ 4000 by omega)) (zq.up (show _ ≤ 400000 by omega) (show _ ≤ 4000 by omega))
    have t2 := t__law_plus_eq (a := acc * ((q : Int) : Rat)) (b := c) (sm.up (by omega) (by omega)) (sc.up (by omega) (by omega))
    have st : tlb__law_poly_at_1 (.int q) (fr acc) (fr c) = pure (fr (acc * (q : Rat) + c)) := by
      unfold tlb__law_poly_at_1
      simp only [pure_bind, sNil_p, sCons_p, sTup_p, sSz_2, fr_int, t1, t2]
    have sn : Sz (M + (s + 1) * (K + t + 4) + 1) ((s + 1) * (K + 1) + 1) (acc * (q : Rat) + c) := ((sm.add sc (c := M + (s + 1) * (K + t + 4)) (by omega) (by omega))).up (by omega) (by omega)
    rw [foldS_cons, st, pure_bind, List.foldl_cons]
    exact horner2 hq ht hM hK r _ (s + 1) (fun d hd => h d (List.mem_cons_of_mem _ hd)) (by omega) sn
theorem t__law_poly_at_eq {t : Nat} {q : Int} (hq : Zk t q) (ht : t ≤ 200) {p : List Rat} {M K : Nat} (hl : p.length ≤ 12) (hM : M ≤ 2000) (hK : K ≤ 300) (hs : SzA M K p) : t__law_poly_at (rowT p) (.int q) = pure (fr (pv p (q : Rat))) := by
  have hrev : pyRev (rowT p) = some (.d (.tuple (p.reverse.map fr))) := by
    show some (RV.d (.tuple (p.map fr).reverse)) = _
    rw [List.map_reverse]
  have hf := horner2 hq ht hM hK p.reverse 0 0 (fun c hc => hs c (List.mem_reverse.mp hc)) (by simp; omega) ((Sz.zero (m := M + 0 * (K + t + 4) + 1)).up (by omega) (by omega))
  rw [horner] at hf
  unfold t__law_poly_at
  simp only [pure_bind, sNil_p, sCons_p, sTup_p, sSz_2, sUn_p, hrev, sOp_d, sItems_t, foldS_map, un1_p, opt_some, fr_zero, hf]
end LJ
namespace LJ
open PySem L2 DL LR
theorem comp_enc {α : Type} {e : α → PyData} {l : List α} {xs : S (List PyData)} (hx : xs = pure (l.map e)) {ct : PyData → S Bool} {ce : PyData → S PyData} (k : α → Bool) (h : α → PyData) (h1 : ∀ x ∈ l, ct (e x) = pure (k x)) (h2 : ∀ x ∈ l, ce (e x) = pure (h x)) (hl : l.length ≤ 1000) : sComp un1 xs ct ce = pure (.list ((l.filter k).map h)) := by
  subst hx
  have hc : compG (fun x => ct (e x) >>= fun b => if b then ce (e x) >>= fun y => pure (some y) else pure none) l = pure ((l.filter k).map h) := compG_eq k h fun x hx => by
    rw [h1 x hx, pure_bind]
    cases k x
    · rfl
    · rw [if_pos rfl, if_pos rfl, h2 x hx, pure_bind]
  rw [sComp_p, compG_map]
  simp only [un1_p, opt_some, pure_bind]
  rw [hc, pure_bind, sSz_eq _ (by rw [List.length_map]; exact Nat.le_trans (List.length_filter_le _ _) (by omega))]
theorem compA_enc {α : Type} {e : α → PyData} {l : List α} {xs : S (List PyData)} (hx : xs = pure (l.map e)) {ce : PyData → S PyData} (h : α → PyData) (h2 : ∀ x ∈ l, ce (e x) = pure (h x)) (hl : l.length ≤ 1000) : sCompA un1 xs ce = pure (.list (l.map h)) := by
  subst hx
  have hc : mapG (fun x => ce (e x)) l = pure (l.map h) := mapG_eq h h2
  rw [sCompA_p, mapG_map]
  simp only [un1_p, opt_some, pure_bind]
  rw [hc, pure_bind, sSz_eq _ (by rw [List.length_map]; omega)]
theorem items_rowT (c : List Rat) : sItems (pure (rowT c)) = pure (c.map fr) := sItems_t _
theorem range_nat {n : Nat} (h : n ≤ 1000) : sRange1 (pure (.int (n : Int))) = pure ((List.range n).map fun i : Nat => PyData.int (i : Int)) := by
  rw [sRange1_p, rng0 (by omega), opt_some]
  unfold ints0
  rw [List.map_map]
  rfl
theorem filt_nil {α β : Type} (k : α → Bool) (h : α → β) (l : List α) : (l.filter k).map h = [] ↔ ∀ x ∈ l, k x = false := by
  rw [List.map_eq_nil_iff, List.filter_eq_nil_iff]
  exact ⟨fun h x hx => by simpa using h x hx, fun h x hx => by simp [h x hx]⟩
theorem emp_iff {α β : Type} {a : List α} {b : List β} (h : a = [] ↔ b = []) : a.isEmpty = b.isEmpty := by
  cases a <;> cases b <;> simp_all
theorem ne_bool (b : Bool) : pyNe (.bool b) (.bool b) = some (.d (.bool false)) := by cases b <;> rfl
end LJ
namespace LGk34
open PySem L2 DL
theorem wh_unfold (k : Nat) (t : M Bool) (b : M Fl) : whileD t b (k + 1) = t.bind fun c => if c then b.bind fun fl => match fl with
      | .nx => whileD t b k
      | .ct => whileD t b k
      | .bk => mNx
      | .rt v => M.pure (.rt v)
    else mNx := rfl
abbrev pe0 (n : Int) : Env' := [.src false, .d (.int n), .src true, .un, .un, .un]
def pickT : M Bool := (mAndT (M.bind (mBin pyLt (mSrcGet "left" (mVarB 0)) (mK (.int 2))) mBool) (M.bind (mBin pyGt (mSrcLen (mVarB 2)) (mK (.int 0))) mBool))
def pickB : M Fl := (mSrcPut "left" (mSrcPop (mVarB 2)) (mVarB 0))
theorem pickT_eq (n : Int) (s : Src) : pickT (pe0 n) (some s) = .ok (decide (s.left < 2) && decide (0 < s.cells.length)) (pe0 n) (some s) := by
  have hc : decide ((0 : Int) < (s.cells.length : Nat)) = decide (0 < s.cells.length) := by
    by_cases h : 0 < s.cells.length
    · rw [decide_eq_true h, decide_eq_true (by omega)]
    · rw [decide_eq_false h, decide_eq_false (by omega)]
  cases h2 : decide (s.left < 2) <;> simp only [pickT, bodyRun, startE, slotArg, M.bind, M.pure, M.opt, mK, mVar, mVarB, mFrz, mBin, mUn, look, mBool, mAndT, mOrT, mNotT, mAndV, mOrV, mNotV, mIf, mNil, mCons, mArg, dataOf, mDisp, mSized, lookAll, mCallB, mIsi, mSl, mPart, mRg1, mRg2, mIntOf, mItems, mRange1, mRange2, evInts, rng1, rng2, mEnum, mZip, mNx, mSeqS, mDrop, mRet, mRetV, mIfS, slotOf, mSet, mAsgP, mPar, mFor, mCall, isArg, RV.ev, List.map_cons, List.map_nil, List.length_cons, List.length_nil, List.replicate, List.cons_append, List.nil_append, List.getElem?_cons_zero, List.getElem?_cons_succ, List.set_cons_zero, List.set_cons_succ, Option.map_some, Option.map_none, Bool.not_true, Bool.not_false, if_true, Bool.false_eq_true, if_false, List.append_nil, Nat.sub_self, Nat.reduceAdd, Nat.reduceSub, Nat.add_zero, Nat.zero_add, mSrcGet, mSrcPut, mSrcLen, mSrcPop, get_cells, get_left, get_mixed, get_turn, srcPutV, put_left, put_mixed, put_turn, gtX_ints, ltX_ints, h2, hc, Bool.and_true, Bool.and_false, Bool.true_and, Bool.false_and]
theorem pickB_eq (n : Int) (s : Src) (c : Int) (h : s.cells[s.cells.length - 1]? = some c) : pickB (pe0 n) (some s) = .ok .nx (pe0 n) (some { s with cells := s.cells.dropLast, left := c }) := by
  simp only [pickB, bodyRun, startE, slotArg, M.bind, M.pure, M.opt, mK, mVar, mVarB, mFrz, mBin, mUn, look, mBool, mAndT, mOrT, mNotT, mAndV, mOrV, mNotV, mIf, mNil, mCons, mArg, dataOf, mDisp, mSized, lookAll, mCallB, mIsi, mSl, mPart, mRg1, mRg2, mIntOf, mItems, mRange1, mRange2, evInts, rng1, rng2, mEnum, mZip, mNx, mSeqS, mDrop, mRet, mRetV, mIfS, slotOf, mSet, mAsgP, mPar, mFor, mCall, isArg, RV.ev, List.map_cons, List.map_nil, List.length_cons, List.length_nil, List.replicate, List.cons_append, List.nil_append, List.getElem?_cons_zero, List.getElem?_cons_succ, List.set_cons_zero, List.set_cons_succ, Option.map_some, Option.map_none, Bool.not_true, Bool.not_false, if_true, Bool.false_eq_true, if_false, List.append_nil, Nat.sub_self, Nat.reduceAdd, Nat.reduceSub, Nat.add_zero, Nat.zero_add, mSrcGet, mSrcPut, mSrcLen, mSrcPop, get_cells, get_left, get_mixed, get_turn, srcPutV, put_left, put_mixed, put_turn, h]
theorem while_pick (n : Int) : ∀ (k : Nat) (s : Src), s.cells.length < k → ∃ s' : Src, whileD pickT pickB k (pe0 n) (some s) = .ok .nx (pe0 n) (some s') ∧ s'.cells.length ≤ s.cells.length
  | k + 1, s, h => by
    rw [wh_unfold, bind_eq (pickT_eq n s)]
    cases q : (decide (s.left < 2) && decide (0 < s.cells.length)) with
    | false => exact ⟨s, rfl, Nat.le_refl _⟩
    | true =>
      rw [Bool.and_eq_true, decide_eq_true_eq, decide_eq_true_eq] at q
      have hl := q.2
      have hc : s.cells[s.cells.length - 1]? = some s.cells[s.cells.length - 1] := List.getElem?_eq_getElem (by omega)
      obtain ⟨s', h1, h2⟩ := while_pick n k { s with cells := s.cells.dropLast, left := s.cells[s.cells.length - 1] } (by simp; omega)
      rw [if_pos rfl, bind_eq (pickB_eq n s _ hc)]
      exact ⟨s', h1, by simp at h2; omega⟩
/-- a number below n -/
theorem pick_ok (n : Int) (g : G) (hg : Live g) (h1 : n ≤ 1000000) : WpF (fm__law_pick [.src false, .d (.int n)] g) fun ev g' => ∃ i : Int, ev = .d (.int i) ∧ 0 ≤ i ∧ i < max 1 n ∧ Live g' := by
  obtain ⟨s, rfl, hs⟩ := hg
  obtain ⟨s', w, hl⟩ := while_pick n 1000000 s (by omega)
  have wh : wh__law_pick_1 [.src false, .d (.int n), .src true, .un, .un, .un] (some s) = .ok .nx (pe0 n) (some s') := by unfold wh__law_pick_1 fuel__law_pick; exact w
  cases q1 : decide (n < 2) with
  | true =>
    have hn : n < 2 := of_decide_eq_true q1
    refine WpF.of (ev := .d (.int 0)) (e := []) (g := some s) ?_ ⟨0, rfl, Int.le_refl _, by have := Int.le_max_left 1 n; omega, _, rfl, hs⟩
    simp only [fm__law_pick, bd__law_pick, bodyRun, startE, slotArg, M.bind, M.pure, M.opt, mK, mVar, mVarB, mFrz, mBin, mUn, look, mBool, mAndT, mOrT, mNotT, mAndV, mOrV, mNotV, mIf, mNil, mCons, mArg, dataOf, mDisp, mSized, lookAll, mCallB, mIsi, mSl, mPart, mRg1, mRg2, mIntOf, mItems, mRange1, mRange2, evInts, rng1, rng2, mEnum, mZip, mNx, mSeqS, mDrop, mRet, mRetV, mIfS, slotOf, mSet, mAsgP, mPar, mFor, mCall, isArg, RV.ev, List.map_cons, List.map_nil, List.length_cons, List.length_nil, List.replicate, List.cons_append, List.nil_append, List.getElem?_cons_zero, List.getElem?_cons_succ, List.set_cons_zero, List.set_cons_succ, Option.map_some, Option.map_none, Bool.not_true, Bool.not_false, if_true, Bool.false_eq_true, if_false, List.append_nil, Nat.sub_self, Nat.reduceAdd, Nat.reduceSub, Nat.add_zero, Nat.zero_add, mSrcGet, mSrcPut, mSrcLen, mSrcPop, get_cells, get_left, get_mixed, get_turn, srcPutV, put_left, put_mixed, put_turn, ltX_ints, q1]
  | false =>
    have hn : 2 ≤ n := by have := of_decide_eq_false q1; omega
    have hn0 : 0 < n := by omega
    have hmax : max 1 n = n := Int.max_eq_right (by omega)
    cases q2 : decide (1 < s'.left) with
    | true =>
      refine WpF.of (ev := .d (.int (s'.left % n))) (e := []) (g := some { s' with left := s'.left / n }) ?_ ⟨_, rfl, Int.emod_nonneg _ (by omega), by rw [hmax]; exact Int.emod_lt_of_pos _ hn0, _, rfl, by show s'.cells.length ≤ 63; omega⟩
      simp only [fm__law_pick, bd__law_pick, bodyRun, startE, slotArg, M.bind, M.pure, M.opt, mK, mVar, mVarB, mFrz, mBin, mUn, look, mBool, mAndT, mOrT, mNotT, mAndV, mOrV, mNotV, mIf, mNil, mCons, mArg, dataOf, mDisp, mSized, lookAll, mCallB, mIsi, mSl, mPart, mRg1, mRg2, mIntOf, mItems, mRange1, mRange2, evInts, rng1, rng2, mEnum, mZip, mNx, mSeqS, mDrop, mRet, mRetV, mIfS, slotOf, mSet, mAsgP, mPar, mFor, mCall, isArg, RV.ev, List.map_cons, List.map_nil, List.length_cons, List.length_nil, List.replicate, List.cons_append, List.nil_append, List.getElem?_cons_zero, List.getElem?_cons_succ, List.set_cons_zero, List.set_cons_succ, Option.map_some, Option.map_none, Bool.not_true, Bool.not_false, if_true, Bool.false_eq_true, if_false, List.append_nil, Nat.sub_self, Nat.reduceAdd, Nat.reduceSub, Nat.add_zero, Nat.zero_add, mSrcGet, mSrcPut, mSrcLen, mSrcPop, get_cells, get_left, get_mixed, get_turn, srcPutV, put_left, put_mixed, put_turn, wh, ltX_ints, gtX_ints, q1, q2, int_int, mod_ints hn0, fdiv_ints hn0 (show n ≤ 1000000000 by omega)]
    | false =>
      have p1 : (0 : Int) < 998244353 := by omega
      have p2 : (0 : Int) < 2147483647 := by omega
      have b1 : ((s'.mixed + (s'.turn + 1) * 104729) % 998244353).natAbs < 2 ^ 64 := by omega
      have m1 : pyMul (.int (s'.turn + 1)) (.int 104729) = some (.d (.int ((s'.turn + 1) * 104729))) := mul_right (by decide)
      have m2 : pyMul (.int (s'.turn + 1)) (.int 17) = some (.d (.int ((s'.turn + 1) * 17))) := mul_right (by decide)
      have m3 := mul_right (i := (s'.mixed + (s'.turn + 1) * 104729) % 998244353) b1
      refine WpF.of (ev := .d (.int ((((s'.mixed + (s'.turn + 1) * 104729) % 998244353 * ((s'.mixed + (s'.turn + 1) * 104729) % 998244353) + (s'.turn + 1) * 17) % 2147483647 / 16) % n))) (e := [])
        (g := some { s' with turn := s'.turn + 1 }) ?_ ⟨_, rfl, Int.emod_nonneg _ (by omega), by rw [hmax]; exact Int.emod_lt_of_pos _ hn0, _, rfl, by show s'.cells.length ≤ 63; omega⟩
      simp only [fm__law_pick, bd__law_pick, bodyRun, startE, slotArg, M.bind, M.pure, M.opt, mK, mVar, mVarB, mFrz, mBin, mUn, look, mBool, mAndT, mOrT, mNotT, mAndV, mOrV, mNotV, mIf, mNil, mCons, mArg, dataOf, mDisp, mSized, lookAll, mCallB, mIsi, mSl, mPart, mRg1, mRg2, mIntOf, mItems, mRange1, mRange2, evInts, rng1, rng2, mEnum, mZip, mNx, mSeqS, mDrop, mRet, mRetV, mIfS, slotOf, mSet, mAsgP, mPar, mFor, mCall, isArg, RV.ev, List.map_cons, List.map_nil, List.length_cons, List.length_nil, List.replicate, List.cons_append, List.nil_append, List.getElem?_cons_zero, List.getElem?_cons_succ, List.set_cons_zero, List.set_cons_succ, Option.map_some, Option.map_none, Bool.not_true, Bool.not_false, if_true, Bool.false_eq_true, if_false, List.append_nil, Nat.sub_self, Nat.reduceAdd, Nat.reduceSub, Nat.add_zero, Nat.zero_add, mSrcGet, mSrcPut, mSrcLen, mSrcPop, get_cells, get_left, get_mixed, get_turn, srcPutV, put_left, put_mixed, put_turn, wh, ltX_ints, gtX_ints, q1, q2, int_int, mod_ints hn0, mod_ints p1, mod_ints p2, add_ints, m1, m2, m3, fdiv_ints (show (0 : Int) < 16 by omega) (show (16 : Int) ≤ 1000000000 by omega)]
theorem bodyRun_env {n : Nat} {mb : M Fl} {evs : List EV} {g : G} {K : EV → G → Prop} (h : WpF (bodyRun n mb evs g) K) : ∃ ev g', bodyRun n mb evs g = .ok ev [] g' ∧ K ev g' := by
  unfold bodyRun at h ⊢
  cases q : mb (startE n evs) g with
  | bad => rw [q] at h; exact h.elim
  | exc _ _ _ _ => rw [q] at h; exact h.elim
  | ok fl e g' =>
    rw [q] at h
    cases fl with
    | nx => exact ⟨_, _, rfl, h⟩
    | bk => exact h.elim
    | ct => exact h.elim
    | rt v =>
      cases v with
      | bo i => exact h.elim
      | scr m => exact h.elim
      | _ => exact ⟨_, _, rfl, h⟩
theorem pick_eq (n : Int) (g : G) (hg : Live g) (h1 : n ≤ 1000000) : ∃ (i : Int) (g' : G), fm__law_pick [.src false, .d (.int n)] g = .ok (.d (.int i)) [] g' ∧ 0 ≤ i ∧ i < max 1 n ∧ Live g' := by
  obtain ⟨ev, g', h2, i, rfl, h3, h4, h5⟩ := bodyRun_env (pick_ok n g hg h1)
  exact ⟨i, g', h2, h3, h4, h5⟩
theorem pick_pos {n : Nat} (hn : 0 < n) {i : Int} (h0 : 0 ≤ i) (h : i < max 1 (n : Int)) : ∃ k : Nat, i = (k : Int) ∧ k < n := by
  obtain ⟨k, rfl⟩ := Int.eq_ofNat_of_zero_le h0
  refine ⟨k, rfl, ?_⟩
  rw [Int.max_eq_right (by omega)] at h
  omega
/-! ### the source -/
theorem src_loop : ∀ (ms : List Int) (xs : Slot) (m : Int) (s2 : Slot), (∀ x, s2 ≠ .own x) → ∃ m' s2', forD (.nm 2) lb__law_open_cells_1 (ms.map .int) [xs, .d (.int m), s2, .un] none = .ok .nx [xs, .d (.int m'), s2', .un] none ∧ ∀ x, s2' ≠ .own x
  | [], xs, m, s2, h => ⟨m, s2, rfl, h⟩
  | c :: ms, xs, m, s2, h => by
    obtain ⟨m', s2', ih, h2⟩ := src_loop ms xs ((m * 69069 + c * 31 + 5) % 2147483629) (.d (.int c)) nofun
    refine ⟨m', s2', ?_, h2⟩
    have m1 : pyMul (.int m) (.int 69069) = some (.d (.int (m * 69069))) := mul_right (by decide)
    have m2 : pyMul (.int c) (.int 31) = some (.d (.int (c * 31))) := mul_right (by decide)
    have hb : lb__law_open_cells_1 [xs, .d (.int m), .d (.int c), .un] none = .ok .nx [xs, .d (.int ((m * 69069 + c * 31 + 5) % 2147483629)), .d (.int c), .un] none := by
      simp only [lb__law_open_cells_1, bodyRun, startE, slotArg, M.bind, M.pure, M.opt, mK, mVar, mVarB, mFrz, mBin, mUn, look, mBool, mAndT, mOrT, mNotT, mAndV, mOrV, mNotV, mIf, mNil, mCons, mArg, dataOf, mDisp, mSized, lookAll, mCallB, mIsi, mSl, mPart, mRg1, mRg2, mIntOf, mItems, mRange1, mRange2, evInts, rng1, rng2, mEnum, mZip, mNx, mSeqS, mDrop, mRet, mRetV, mIfS, slotOf, mSet, mAsgP, mPar, mFor, mCall, isArg, RV.ev, List.map_cons, List.map_nil, List.length_cons, List.length_nil, List.replicate, List.cons_append, List.nil_append, List.getElem?_cons_zero, List.getElem?_cons_succ, List.set_cons_zero, List.set_cons_succ, Option.map_some, Option.map_none, Bool.not_true, Bool.not_false, if_true, Bool.false_eq_true, if_false, List.append_nil, Nat.sub_self, Nat.reduceAdd, Nat.reduceSub, Nat.add_zero, Nat.zero_add, m1, m2, add_ints, int_int, mod_ints (show (0 : Int) < 2147483629 by omega)]
    have ha : asg (.nm 2) (.int c) [xs, .d (.int m), s2, .un] = some [xs, .d (.int m), .d (.int c), .un] := rfl
    rw [List.map_cons]
    unfold forD
    rw [ha]
    dsimp only
    rw [bind_eq hb]
    exact ih
def absI (i : Int) : Int := if i < 0 then -i else i
theorem source_eq (ns : List Int) (h : ns.length ≤ 63) : ∃ g', fm__law_open_cells [.scr ns] none = .ok (.src false) [] g' ∧ Live g' := by
  obtain ⟨m', s2', L, no⟩ := src_loop ns (.scr ns) 11 .un nofun
  have lp : lp__law_open_cells_1 [.scr ns, .d (.int 11), .un, .un] none = .ok .nx [.scr ns, .d (.int m'), s2', .un] none := L
  have hno : noOwn [.scr ns, .d (.int m'), s2', .un] [2] = true := by
    cases s2' with
    | own x => exact absurd rfl (no x)
    | _ => rfl
  have hc : cp__law_open_cells_1 [.scr ns, .d (.int m'), s2', .un] none = .ok (.fr (li (ns.map absI))) [.scr ns, .d (.int m'), s2', .un] none := by
    have q : cp__law_open_cells_1 [.scr ns, .d (.int m'), s2', .un] none = _ := mComp_all (p := .nm 2) (vs := [2]) (ofI absI) (env1 := [.scr ns, .d (.int m'), s2', .un]) (xs := ns.map .int) (g1 := none) rfl hno (by rw [List.length_map, sizeLine_eq]; omega) fun y hy => by
      obtain ⟨p, hm, rfl⟩ := List.mem_map.mp hy
      refine ⟨[.scr ns, .d (.int m'), .d (.int p), .un], rfl, rfl, ?_⟩
      simp only [bodyRun, startE, slotArg, M.bind, M.pure, M.opt, mK, mVar, mVarB, mFrz, mBin, mUn, look, mBool, mAndT, mOrT, mNotT, mAndV, mOrV, mNotV, mIf, mNil, mCons, mArg, dataOf, mDisp, mSized, lookAll, mCallB, mIsi, mSl, mPart, mRg1, mRg2, mIntOf, mItems, mRange1, mRange2, evInts, rng1, rng2, mEnum, mZip, mNx, mSeqS, mDrop, mRet, mRetV, mIfS, slotOf, mSet, mAsgP, mPar, mFor, mCall, isArg, RV.ev, List.map_cons, List.map_nil, List.length_cons, List.length_nil, List.replicate, List.cons_append, List.nil_append, List.getElem?_cons_zero, List.getElem?_cons_succ, List.set_cons_zero, List.set_cons_succ, Option.map_some, Option.map_none, Bool.not_true, Bool.not_false, if_true, Bool.false_eq_true, if_false, List.append_nil, Nat.sub_self, Nat.reduceAdd, Nat.reduceSub, Nat.add_zero, Nat.zero_add, pyAbs, oneI, ofI, absI]
    rw [map_ofI] at q
    exact q
  refine ⟨some ⟨(ns.map absI).reverse, 1, m', 0⟩, ?_, _, rfl, by simp; omega⟩
  simp only [fm__law_open_cells, bd__law_open_cells, bodyRun, startE, slotArg, M.bind, M.pure, M.opt, mK, mVar, mVarB, mFrz, mBin, mUn, look, mBool, mAndT, mOrT, mNotT, mAndV, mOrV, mNotV, mIf, mNil, mCons, mArg, dataOf, mDisp, mSized, lookAll, mCallB, mIsi, mSl, mPart, mRg1, mRg2, mIntOf, mItems, mRange1, mRange2, evInts, rng1, rng2, mEnum, mZip, mNx, mSeqS, mDrop, mRet, mRetV, mIfS, slotOf, mSet, mAsgP, mPar, mFor, mCall, isArg, RV.ev, List.map_cons, List.map_nil, List.length_cons, List.length_nil, List.replicate, List.cons_append, List.nil_append, List.getElem?_cons_zero, List.getElem?_cons_succ, List.set_cons_zero, List.set_cons_succ, Option.map_some, Option.map_none, Bool.not_true, Bool.not_false, if_true, Bool.false_eq_true, if_false, List.append_nil, Nat.sub_self, Nat.reduceAdd, Nat.reduceSub, Nat.add_zero, Nat.zero_add, lp, hc, mSrcNew, pyRev, srcNewD, ← List.map_reverse, intsOf_map]
/-! ### drawn, in functional terms -/
theorem fuel_pos : True := trivial
theorem tot_pick {n : Int} (h : n ≤ 1000000) : Tot (t__law_pick (.int n)) fun x => ∃ i : Int, x = .int i ∧ 0 ≤ i ∧ i < max 1 n := fun g hg => by
  obtain ⟨i, g', h1, h2, h3, h4⟩ := pick_eq n g hg h
  exact ⟨.int i, g', by unfold t__law_pick ofFM; rw [h1], h4, i, rfl, h2, h3⟩
theorem tot_pickN {n : Nat} (h0 : 0 < n) (h : n ≤ 1000000) : Tot (t__law_pick (.int (n : Int))) fun x => ∃ k : Nat, x = .int (k : Int) ∧ k < n :=
  (tot_pick (by omega)).mono fun x ⟨i, e, h1, h2⟩ => by
    obtain ⟨k, rfl, hk⟩ := pick_pos h0 h1 h2
    exact ⟨k, e, hk⟩
theorem tot_src {ns : List Int} (h : ns.length ≤ 63) : ∃ g', srcS fm__law_open_cells ns none = some ((), g') ∧ Live g' := by
  obtain ⟨g', h1, h2⟩ := source_eq ns h
  exact ⟨g', by unfold srcS; rw [h1], h2⟩
theorem tot_of {ds : List PyData} (h0 : 0 < ds.length) (h : ds.length ≤ 1000000) : Tot (t__law_of (.list ds)) fun x => x ∈ ds := by
  unfold t__law_of
  simp only [sNil_p, sCons_p, sCallB_p, len_l, sOp_d, pure_bind, sBin]
  refine Tot.bind (tot_pickN h0 h) fun x ⟨k, e, hk⟩ => ?_
  subst e
  have ha : atI ds (k : Int) = some ds[k] := atI_nat (List.getElem?_eq_getElem hk)
  simp only [pyIx, ha, Option.map_some, sOp_d]
  exact Tot.pure (List.getElem_mem hk)
theorem tot_ofT {ds : List PyData} (h0 : 0 < ds.length) (h : ds.length ≤ 1000000) : Tot (t__law_of (.tuple ds)) fun x => x ∈ ds := by
  unfold t__law_of
  simp only [sNil_p, sCons_p, sCallB_p, len_t, sOp_d, pure_bind, sBin]
  refine Tot.bind (tot_pickN h0 h) fun x ⟨k, e, hk⟩ => ?_
  subst e
  have ha : atI ds (k : Int) = some ds[k] := atI_nat (List.getElem?_eq_getElem hk)
  simp only [pyIx, ha, Option.map_some, sOp_d]
  exact Tot.pure (List.getElem_mem hk)
end LGk34
namespace LGk34
open PySem L2 DL LR LJ
theorem bf_row : fuel_row_of = LR.fuel_row_of := by unfold fuel_row_of LR.fuel_row_of; rfl
theorem bf_through : fuel_row_through = LR.fuel_row_through := by unfold fuel_row_through LR.fuel_row_through; rfl
theorem bf_fraction : fuel__law_fraction = LJ.fuel__law_fraction := by unfold fuel__law_fraction LJ.fuel__law_fraction; rfl
theorem bf_trim : fuel__law_trimmed = LJ.fuel__law_trimmed := by unfold fuel__law_trimmed LJ.fuel__law_trimmed; rfl
theorem b_row_of : LGk34.t_row_of = LR.t_row_of := by funext x; unfold LGk34.t_row_of LR.t_row_of; rw [bf_row]; rfl
theorem b_through : LGk34.t_row_through = LR.t_row_through := by funext x; unfold LGk34.t_row_through LR.t_row_through; rw [bf_through]; simp only [b_row_of]; rfl
theorem b_poly : LGk34.t_row_poly = LR.t_row_poly := by funext x; unfold LGk34.t_row_poly LR.t_row_poly; simp only [b_row_of]; rfl
theorem b_of_poly : LGk34.t_row_of_poly = LR.t_row_of_poly := by funext x; unfold LGk34.t_row_of_poly LR.t_row_of_poly; simp only [b_through]; rfl
theorem b_rat : LGk34.t_row_at = LR.t_row_at := rfl
theorem b_fraction : LGk34.t__law_fraction = LJ.t__law_fraction := by funext x y; unfold LGk34.t__law_fraction LJ.t__law_fraction; rw [bf_fraction]; rfl
theorem b_plus : LGk34.t__law_plus = LJ.t__law_plus := by funext x y; unfold LGk34.t__law_plus LJ.t__law_plus; simp only [b_fraction]
theorem b_by : LGk34.t__law_by = LJ.t__law_by := by funext x y; unfold LGk34.t__law_by LJ.t__law_by; simp only [b_fraction]
theorem b_trimmed : LGk34.t__law_trimmed = LJ.t__law_trimmed := by funext x; unfold LGk34.t__law_trimmed LJ.t__law_trimmed; rw [bf_trim]; rfl
theorem b_is_fraction : LGk34.t__law_is_fraction = LJ.t__law_is_fraction := by funext x; unfold LGk34.t__law_is_fraction LJ.t__law_is_fraction; simp only [b_fraction]; rfl
theorem b_is_row : LGk34.t__law_is_row = LJ.t__law_is_row := by funext x; unfold LGk34.t__law_is_row LJ.t__law_is_row; simp only [b_is_fraction]
theorem b_choose : LGk34.t__law_choose = LJ.t__law_choose := rfl
theorem b_row_at1 : LGk34.tlb__law_row_at_1 = LJ.tlb__law_row_at_1 := by funext x y z; unfold LGk34.tlb__law_row_at_1 LJ.tlb__law_row_at_1; simp only [b_choose, b_by, b_plus]
theorem b_row_at : LGk34.t__law_row_at = LJ.t__law_row_at := by funext x y; unfold LGk34.t__law_row_at LJ.t__law_row_at; simp only [b_row_at1]
theorem b_minus : LGk34.t__law_minus = LJ.t__law_minus := by funext x y; unfold LGk34.t__law_minus LJ.t__law_minus; simp only [b_plus]
theorem b_thr1 : LGk34.tlb__law_through_1 = LJ.tlb__law_through_1 := by funext x y; unfold LGk34.tlb__law_through_1 LJ.tlb__law_through_1; simp only [b_row_at, b_minus]
theorem b_lthrough : LGk34.t__law_through = LJ.t__law_through := by funext x; unfold LGk34.t__law_through LJ.t__law_through; simp only [b_thr1, b_trimmed]
theorem b_pa1 : LGk34.tlb__law_poly_at_1 = LJ.tlb__law_poly_at_1 := by funext x y z; unfold LGk34.tlb__law_poly_at_1 LJ.tlb__law_poly_at_1; simp only [b_by, b_plus]
theorem b_poly_at : LGk34.t__law_poly_at = LJ.t__law_poly_at := by funext x y; unfold LGk34.t__law_poly_at LJ.t__law_poly_at; simp only [b_pa1]
/-! draws -/
theorem tot_number : Tot t__law_number fun x => ∃ c : Rat, x = fr c ∧ Six 42 c := by
  have e1 : (sLst (sCons (pure (.int 1)) (sCons (pure (.int 1)) (sCons (sUn pyNeg (pure (.int 1))) (sCons (pure (.int 2)) (sCons (sUn pyNeg (pure (.int 3))) (sCons (pure (.int 5)) (sCons (pure (.int 7)) sNil)))))))) = (pure (.list ([1, 1, -1, 2, -3, 5, 7].map PyData.int)) : S PyData) := rfl
  have e2 : (sLst (sCons (pure (.int 1)) (sCons (pure (.int 1)) (sCons (pure (.int 1)) (sCons (pure (.int 2)) (sCons (pure (.int 3)) sNil)))))) = (pure (.list ([1, 1, 1, 2, 3].map PyData.int)) : S PyData) := rfl
  unfold t__law_number
  rw [e1, e2, pure_bind, pure_bind]
  refine Tot.bind (tot_of (by decide) (by decide)) fun x hx => ?_
  obtain ⟨p, hp, rfl⟩ := List.mem_map.mp hx
  refine Tot.bind (tot_of (by decide) (by decide)) fun x hx => ?_
  obtain ⟨q, hq, rfl⟩ := List.mem_map.mp hx
  obtain ⟨h1, h2, h3, h4, h5⟩ := number_six p hp q hq
  rw [b_fraction, t__law_fraction_eq h3 (Zk.up (a := 133) h4 (by omega)) (Zk.up (a := 133) h5 (by omega))]
  exact Tot.pure ⟨_, rfl, _, h1, h2⟩
structure Us (u : List Rat) : Prop where
  l : u.length ≤ 8
  s : ∀ c ∈ u, Six 42 c
theorem Us.dif {u : List Rat} (h : Us u) (j : Nat) : SzA 400000 4000 (difN j u) := fun c hc => (Six.sz (m := 14) (difN_six j 8 u 42 h.l h.s c hc) (by decide)).up (by omega) (by omega)
theorem Us.newt {u : List Rat} (h : Us u) : ∀ c ∈ newt u.length u, Six 10752 c := fun c hc => newt_six _ 8 u 42 h.l h.s c hc
theorem Us.sz {u : List Rat} (h : Us u) : SzA 12 3 u := fun c hc => Six.sz (h.s c hc) (by decide)
theorem all_of {P : Rat → Prop} : ∀ ys : List PyData, (∀ y ∈ ys, ∃ c : Rat, y = fr c ∧ P c) → ∃ u : List Rat, ys = u.map fr ∧ ∀ c ∈ u, P c
  | [], _ => ⟨[], rfl, fun c hc => by cases hc⟩
  | y :: ys, yb => by
    obtain ⟨u, rfl, hu⟩ := all_of ys fun z hz => yb z (List.mem_cons_of_mem _ hz)
    obtain ⟨c, rfl, hc⟩ := yb y (by simp)
    refine ⟨c :: u, rfl, fun d hd => ?_⟩
    rcases List.mem_cons.mp hd with rfl | hd
    · exact hc
    · exact hu d hd
theorem tot_drawn {n : Nat} (hn : n ≤ 8) : Tot (sCompA un1 (sRange1 (pure (.int (n : Int)))) (fun q7 => (sIf (sBool (sBin pyGt (t__law_pick (.int 3)) (pure (.int 0)))) (t__law_number) (sTup (sCons (pure (.int 0)) (sCons (pure (.int 1)) sNil)))))) fun x => ∃ u : List Rat, x = rowL u ∧ Us u ∧ u.length = n := by
  simp only [sRange1_p, rng0 (show n ≤ 16777216 by omega), opt_some, sCompA_p, mapG_map, un1_p, pure_bind]
  refine Tot.bind (Tot.mapA (fun y => ∃ c : Rat, y = fr c ∧ Six 42 c) (l := ints0 n) fun i _ => ?_) fun ys ⟨yl, yb⟩ => ?_
  · rw [bin_q]
    unfold sIf sBool
    simp only [bind_assoc]
    refine Tot.bind (tot_pickN (n := 3) (by omega) (by omega)) fun a ⟨m, e, hm⟩ => ?_
    subst e
    simp only [pyGt_ii, sOp_d, pure_bind, boolS_b]
    split
    · exact tot_number
    · simp only [sNil_p, sCons_p, sTup_p, sSz_2]
      exact Tot.pure ⟨0, rfl, six0 _⟩
  · obtain ⟨u, rfl, hu⟩ := all_of ys yb
    rw [List.length_map, ints0_length] at yl
    rw [sSz_eq _ (by rw [List.length_map]; omega)]
    exact Tot.pure ⟨u, rfl, ⟨by omega, hu⟩, yl⟩
/-- small whole numbers -/
def Sm (c : Rat) : Prop := ∃ i : Int, c = (i : Rat) ∧ i.natAbs ≤ 4
theorem tot_late {n : Nat} (hn : n ≤ 8) : Tot (sCompA un1 (sRange1 (pure (.int (n : Int)))) (fun q28 => (sTup (sCons (sBin pySub (t__law_pick (.int 9)) (pure (.int 4))) (sCons (pure (.int 1)) sNil)))) >>= fun y30 => LJ.t__law_trimmed y30) fun x => ∃ l : List Rat, x = rowT l ∧ Trim l ∧ l.length ≤ n ∧ ∀ c ∈ l, Sm c := by
  simp only [sRange1_p, rng0 (show n ≤ 16777216 by omega), opt_some, sCompA_p, mapG_map, un1_p, pure_bind, bind_assoc]
  refine Tot.bind (Tot.mapA (fun y => ∃ c : Rat, y = fr c ∧ Sm c) (l := ints0 n) fun i _ => ?_) fun ys ⟨yl, yb⟩ => ?_
  · unfold sTup
    rw [cons_b, bin_q]
    simp only [bind_assoc]
    refine Tot.bind (tot_pickN (n := 9) (by omega) (by omega)) fun a ⟨m, e, hm⟩ => ?_
    subst e
    simp only [pySub_ii, sOp_d, pure_bind, sNil_p, sCons_p, sSz_2, fr_int]
    exact Tot.pure ⟨_, rfl, _, rfl, by omega⟩
  · obtain ⟨u, rfl, hu⟩ := all_of ys yb
    rw [List.length_map, ints0_length] at yl
    rw [sSz_eq _ (by rw [List.length_map]; omega), pure_bind, LJ.b_trimmed, LR.t__law_trimmed_eq (rowL u) (.inr rfl) (by omega)]
    exact Tot.pure ⟨_, rfl, trim_trim u, by have := trim_le u; omega, fun c hc => hu c (mem_trim hc)⟩
end LGk34
namespace LGk34
open PySem L2 DL LR LJ
theorem row_n {N D t : Nat} {l : List Rat} {n : Int} (hs : SzA N D l) (hl : l.length ≤ 15) (hz : Zk t n) (ht : 4 ≤ t) (ht2 : t ≤ 200) (hN : N ≤ 2000) (hD : D ≤ 100) : RowN t N D l n := by
  have h1 : (t + 1) * (l.length + 2) ≤ 201 * 17 := Nat.mul_le_mul (by omega) (by omega)
  have h2 : l.length * (D + 2) ≤ 15 * 102 := Nat.mul_le_mul hl (by omega)
  have h3 : l.length * (D + 1) ≤ 15 * 101 := Nat.mul_le_mul hl (by omega)
  have h4 : 2 ^ 4 ≤ 2 ^ t := Nat.pow_le_pow_right (by decide) ht
  exact ⟨hs, hz, by omega, by omega, by omega, by omega⟩
theorem Sm.mu {c : Rat} (h : Sm c) : Mu 1 c := by
  obtain ⟨i, rfl, _⟩ := h
  exact ⟨i, by rw [Int.one_mul]⟩
theorem Sm.sz {c : Rat} (h : Sm c) : Sz 4 1 c := by
  obtain ⟨i, rfl, hi⟩ := h
  exact Sz.int (show i.natAbs < 2 ^ 4 by omega)
/-- what the worths of a row of whole members are -/
theorem late_at {l : List Rat} (hl : l.length ≤ 8) (hs : ∀ c ∈ l, Sm c) {i : Int} (hi : Zk 4 i) : LR.t_row_at (rowT l) (.int i) = pure (fr (evR 0 l (i : Rat))) :=
  t_row_at_eq (rowT l) (.inl rfl) (row_n (N := 4) (D := 1) (fun c hc => (hs c hc).sz) (by omega) hi (by omega) (by omega) (by omega) (by omega))
theorem den_k {r : Rat} : decide (((r.den : Nat) : Int) ≠ 1) = false ↔ Mu 1 r := by
  rw [← mu_den, decide_eq_false_iff_not]; omega
theorem mod_k {m : Int} {r : Rat} (h : Mu 1 r) : decide (r.num % m ≠ 0) = false ↔ Mu m r := by
  rw [← mu_mod h, decide_eq_false_iff_not]; omega
theorem lap_ok (q : PyData) : Tot (tlb_law_1 () q) fun o => ∃ w, o = .nxt w ∧ True := by
  have p30 : sBin pySub (sBin pyPow (pure (.int 10)) (pure (.int 30))) (pure (.int 7)) = (pure (.int (10 ^ 30 - 7)) : S PyData) := rfl
  have z30 : 10 ^ 30 < 2 ^ 100 := by decide
  unfold tlb_law_1
  rw [p30]
  simp only [pure_bind, b_through, b_lthrough, b_rat, b_poly, b_of_poly, b_is_row, b_poly_at, b_row_at, b_trimmed]
  refine Tot.bind (tot_pickN (n := 9) (by omega) (by omega)) fun x ⟨n, e, hn⟩ => ?_
  subst e
  refine Tot.bind (tot_drawn (n := n) (by omega)) fun x ⟨u, e, hu, hul⟩ => ?_
  subst e
  have l1 : pyListOf [rowL u] = some (.fr (rowL u)) := rfl
  have l2 : pyTupOf [rowL u] = some (.d (rowT u)) := rfl
  have th1 := t_row_through_eq (rowL u) (.inr rfl) (by omega) hu.dif
  have th2 := t_row_through_eq (rowT u) (.inl rfl) (by omega) hu.dif
  have sN : SzA 14 3 (newt u.length u) := fun c hc => (hu.newt c hc).sz (by decide)
  have th3 := t__law_through_eq (u := u) (by omega) (hu.sz.up (by omega) (by omega)) (sN.up (by omega) (by omega))
  have evc : ∀ k : Nat, k < n → evR 0 (trim (newt u.length u)) (k : Rat) = coef u k := fun k hk => by rw [ev_trim]; exact ev_newt u.length u rfl k (by omega)
  have tc : Trim (trim (newt u.length u)) := trim_trim _
  have lc : (trim (newt u.length u)).length ≤ n := by have := trim_le (newt u.length u); rw [newt_len _ _ rfl] at this; omega
  have six : ∀ x ∈ trim (newt u.length u), Six 10752 x := fun x hx => hu.newt x (mem_trim hx)
  generalize trim (newt u.length u) = c at *
  clear sN
  have sc : SzA 14 3 c := fun x hx => (six x hx).sz (by decide)
  have r1 := repr_eq ((Rk.lst (n := 2) (d := 3) (b := 8000) (ds := [rowT c, rowT c]) (fun d hd => by
    simp only [List.mem_cons, List.not_mem_nil, or_false] at hd
    rcases hd with rfl | rfl <;> exact row_rk (sc.up (by omega) (by omega)) (by omega)) (by simp)).ok (by omega) (by omega))
  have m2 : pyMul (.list [rowT c]) (.int 2) = some (.fr (.list [rowT c, rowT c])) := rfl
  have dl : decide ((n : Int) < (c.length : Int)) = false := decide_eq_false (by omega)
  have ra : ∀ k : Nat, k < n → LR.t_row_at (rowT c) (.int (k : Int)) = pure (fr (coef u k)) := fun k hk => by
    rw [t_row_at_eq (rowT c) (.inl rfl) (row_n sc (by omega) (show Zk 4 (k : Int) from show ((k : Int)).natAbs < 2 ^ 4 by omega) (by omega) (by omega) (by omega) (by omega)), show (((k : Nat) : Int) : Rat) = (k : Rat) from rfl, evc k hk]
  have cu : (List.range n).map (fun k => fr (coef u k)) = u.map fr := by
    refine List.ext_getElem (by simp [hul]) fun k h1 h2 => ?_
    simp only [List.getElem_map, List.getElem_range]
    congr 1
    unfold coef
    rw [List.getD_eq_getElem?_getD, List.getElem?_eq_getElem (by simpa using h2)]; rfl
  have ca := compA_enc (ce := fun q11 => LR.t_row_at (rowT c) q11) (range_nat (n := n) (by omega)) (fun k => fr (coef u k)) (fun k hk => ra k (List.mem_range.mp hk)) (by simp; omega)
  rw [cu] at ca
  have r2 := repr_eq ((Rk.mono (Rk.lst (n := 8) (d := 2) (b := 976) (ds := u.map fr) (fun d hd => by
    obtain ⟨x, hx, rfl⟩ := List.mem_map.mp hd
    exact fr_rk ((hu.sz x hx).up (by omega) (by omega))) (by simp; omega)) (d' := 3) (b' := 8000) (by omega) (by omega)).ok (by omega) (by omega))
  have po := t_row_poly_eq (a := c) (by omega) (show 14 ≤ 2000 by omega) (show 3 ≤ 200 by omega) sc
  simp only [sNil_p, sCons_p, sCallB_p, l1, l2, sOp_fr, sOp_d, pure_bind, th1, th2, th3, sLst_p, sSz_1, sSz_2, sRepr_p, r1, sBin_p, m2, ne_str_self, len_t, List.length_map, pyGt_ii, dl, sBool_p, sOrT_p, Bool.false_eq_true, if_false, sIf_p, ca, r2, po]
  refine Tot.bind (R := fun x => ∃ m : Int, x = .int m ∧ Zk 100 m) ?_ fun x ⟨m, e, hm⟩ => ?_
  · unfold sLst
    simp only [cons_b, bin_p, bind_assoc, pure_bind]
    refine Tot.bind (tot_pickN (n := 50) (by omega) (by omega)) fun x ⟨i, e, hi⟩ => ?_
    subst e
    refine Tot.bind (tot_pickN (n := 50) (by omega) (by omega)) fun x ⟨j, e, hj⟩ => ?_
    subst e
    simp only [pySub_ii, sOp_d, pure_bind, sSz_3]
    refine (tot_of (by simp) (by simp)).mono fun x hx => ?_
    simp only [List.mem_cons, List.not_mem_nil, or_false] at hx
    rcases hx with rfl | rfl | rfl
    · exact ⟨_, rfl, Nat.lt_of_le_of_lt (show ((i : Int)).natAbs ≤ 10 ^ 30 by omega) z30⟩
    · exact ⟨_, rfl, Nat.lt_of_le_of_lt (show ((0 : Int) - (j : Int)).natAbs ≤ 10 ^ 30 by omega) z30⟩
    · exact ⟨_, rfl, Nat.lt_of_le_of_lt (show ((10 : Int) ^ 30 - 7).natAbs ≤ 10 ^ 30 by omega) z30⟩
  subst e
  clear th1 th2 th3 r1 m2 dl ca r2 po
  have pl := polyOf_len tc
  have sp : SzA 325 265 (polyOf c) := (polyOf_sz (M := 14) (K := 3) (by omega) (by omega) (by omega) sc).up (by omega) (by omega)
  have ir : LJ.t__law_is_row (rowT (polyOf c)) = pure (.bool true) := by
    rw [t__law_is_row_eq (sp.up (by omega) (by omega)) (by omega)]; congr 2; exact decide_eq_true (polyOf_trim c)
  have pa := t__law_poly_at_eq hm (show 100 ≤ 200 by omega) (p := polyOf c) (by omega) (show 325 ≤ 2000 by omega) (show 265 ≤ 300 by omega) sp
  rw [pv_polyOf] at pa
  have RM := row_n sc (show c.length ≤ 15 by omega) hm (by omega) (by omega) (by omega) (by omega)
  have la := t__law_row_at_eq (rowT c) (.inl rfl) RM (by omega)
  have r3 := repr_eq ((fr_rk ((sz_ev RM (by omega)).up (show _ ≤ 1600 by omega) (show _ ≤ 1600 by omega))).ok (by omega) (by omega))
  have dpl : decide (((polyOf c).length : Int) ≠ (c.length : Int)) = false := by rw [pl]; simp
  have r4 := repr_eq ((row_rk (sc.up (show _ ≤ 1600 by omega) (show _ ≤ 1600 by omega)) (by omega)).ok (by omega) (by omega))
  have six1 : ∀ x ∈ vals (polyOf c) (polyOf c).length, Six 42 x := fun x hx => by
    obtain ⟨k, hk, rfl⟩ := List.mem_map.mp hx
    have hk' : k < n := by have := List.mem_range.mp hk; omega
    rw [pv_polyOf, evc k hk']
    unfold coef
    rw [List.getD_eq_getElem?_getD, List.getElem?_eq_getElem (by omega)]
    exact hu.s _ (List.getElem_mem _)
  have op := t_row_of_poly_eq (p := polyOf c) (rowT (polyOf c)) rfl (by omega) (show 325 ≤ 2000 by omega) (show 265 ≤ 300 by omega) sp (fun j x hx => (Six.sz (m := 14) (difN_six j 8 _ 42 (by rw [vals_len]; omega) six1 x hx) (by decide)).up (by omega) (by omega))
  rw [poly_there tc] at op
  have six2 : ∀ x ∈ vals c c.length, Six (8 ^ 8 * 10752) x := fun x hx => by
    obtain ⟨k, hk, rfl⟩ := List.mem_map.mp hx
    have hk' : k < n := by have := List.mem_range.mp hk; omega
    exact pv_six (by omega) 8 c _ (by omega) six
  have oc := t_row_of_poly_eq (p := c) (rowT c) rfl (by omega) (show 14 ≤ 2000 by omega) (show 3 ≤ 300 by omega) sc (fun j x hx => (Six.sz (m := 60) (difN_six j 8 _ _ (by rw [vals_len]; omega) six2 x hx) (by decide)).up (by omega) (by omega))
  have ln : (trim (newt c.length (vals c c.length))).length ≤ 8 := by
    have := trim_le (newt c.length (vals c c.length))
    rw [newt_len _ _ (vals_len _ _)] at this
    omega
  have sb : SzA 60 3 (trim (newt c.length (vals c c.length))) := fun x hx => Six.sz (m := 60) (newt_six c.length 8 _ _ (by rw [vals_len]; omega) six2 x (mem_trim hx)) (by decide)
  have pb := t_row_poly_eq (a := trim (newt c.length (vals c c.length))) (by omega) (show 60 ≤ 2000 by omega) (show 3 ≤ 200 by omega) sb
  rw [poly_back tc] at pb
  simp only [ir, sBool_p, sNotT_p, Bool.not_true, pyNe_ii, sOp_d, dpl, pa, la, sRepr_p, r3, sBin_p, ne_str_self, sOrT_p, Bool.false_eq_true, if_false, sIf_p, op, r4, oc, pure_bind, pb]
  clear ir pa la r3 dpl r4 six1 op six2 oc ln sb pb RM
  refine Tot.bind (tot_late (n := n) (by omega)) fun x ⟨l, e, tl, ll, hl⟩ => ?_
  subst e
  have fx1 : ∀ r : Rat, pyIx (fr r) (.int 1) = some (.d (.int ((r.den : Nat) : Int))) := fun r => rfl
  have fx0 : ∀ r : Rat, pyIx (fr r) (.int 0) = some (.d (.int r.num)) := fun r => rfl
  have hl1 : ∀ x ∈ l, Mu 1 x := fun x hx => (hl x hx).mu
  have lat : ∀ k : Nat, k < n → LR.t_row_at (rowT l) (.int (k : Int)) = pure (fr (evR 0 l (k : Rat))) := fun k hk => late_at (by omega) hl (show ((k : Int)).natAbs < 2 ^ 4 by omega)
  have c1 := comp_enc (e := PyData.int) (l := [-6, -5, -4, -3, -2, -1, 0, 1, 2, 3, 4, 5, 6]) (xs := sRange2 (pure (.int (-6))) (pure (.int 7))) rfl
    (ct := fun q32 => sBool (sBin pyNe (sBin pyIx (LR.t_row_at (rowT l) q32) (pure (PyData.int 1))) (pure (PyData.int 1)))) (ce := fun _ => pure (PyData.int 1))
    (fun i => decide ((((evR 0 l ((i : Int) : Rat)).den : Nat) : Int) ≠ 1)) (fun _ => .int 1) (fun i hi => by
      have hz : Zk 4 i := by
        simp only [List.mem_cons, List.not_mem_nil, or_false] at hi
        show i.natAbs < 2 ^ 4
        omega
      simp only [late_at (by omega) hl hz, sBin_p, fx1, sOp_d, pyNe_ii, sBool_p]) (fun i _ => rfl) (by simp)
  rw [(filt_nil _ _ _).mpr fun i _ => den_k.mpr (mu_ev l 0 hl1)] at c1
  have c2 := comp_enc (items_rowT c) (ct := fun q35 => sBool (sBin pyNe (sOp (pyIx q35 (PyData.int 1))) (pure (PyData.int 1)))) (ce := fun q => pure q)
    (fun r => decide (((r.den : Nat) : Int) ≠ 1)) fr (fun r _ => by simp only [fx1, sOp_d, sBin_p, pyNe_ii, sBool_p]) (fun r _ => rfl) (by omega)
  have c3 := comp_enc (range_nat (n := n) (by omega)) (ct := fun q37 => sBool (sBin pyNe (sBin pyIx (LR.t_row_at (rowT c) q37) (pure (PyData.int 1))) (pure (PyData.int 1)))) (ce := fun _ => pure (PyData.int 1))
    (fun k => decide ((((coef u k).den : Nat) : Int) ≠ 1)) (fun _ => .int 1) (fun k hk => by simp only [ra k (List.mem_range.mp hk), sBin_p, fx1, sOp_d, pyNe_ii, sBool_p]) (fun _ _ => rfl) (by simp; omega)
  have e23 : ((List.filter (fun k => decide ((((coef u k).den : Nat) : Int) ≠ 1)) (List.range n)).map fun _ => PyData.int 1).isEmpty = ((List.filter (fun r : Rat => decide (((r.den : Nat) : Int) ≠ 1)) c).map fr).isEmpty := by
    refine emp_iff ?_
    rw [filt_nil, filt_nil]
    have := mu_row (m := 1) tc lc
    constructor
    · intro h x hx
      exact den_k.mpr (this.mpr (fun k hk => by rw [evc k hk]; exact den_k.mp (h k (List.mem_range.mpr hk))) x hx)
    · intro h k hk
      have hk' := List.mem_range.mp hk
      have := this.mp (fun x hx => den_k.mp (h x hx)) k hk'
      rw [evc k hk'] at this
      exact den_k.mpr this
  simp only [sUn_p, pyNeg_i, sOp_d, c1, sSz_nil, sBin_p, pyNe_l0, List.isEmpty_nil, Bool.not_true, sBool_p, sIf_p, Bool.false_eq_true, if_false, c2, c3, pyEq_l0, e23, ne_bool, pure_bind]
  clear c1 c2 c3 e23
  rw [bin_p]
  simp only [bind_assoc]
  refine Tot.bind (tot_pickN (n := 4) (by omega) (by omega)) fun x ⟨j, e, hj⟩ => ?_
  subst e
  have m0 : (0 : Int) < 2 + (j : Int) := by omega
  have c4 := comp_enc (range_nat (n := n) (by omega)) (ct := fun q42 => sBool (sBin pyNe (sBin pyMod (sCallB pyInt (sCons (sBin pyIx (LR.t_row_at (rowT l) q42) (pure (PyData.int 0))) (pure []))) (pure (.int (2 + (j : Int))))) (pure (PyData.int 0)))) (ce := fun q => pure q)
    (fun k => decide ((evR 0 l (k : Rat)).num % (2 + (j : Int)) ≠ 0)) (fun k => .int (k : Int)) (fun k hk => by simp only [lat k (List.mem_range.mp hk), sBin_p, fx0, sOp_d, sCons_p, sCallB_p, int_i, mod_ints m0, pyNe_ii, sBool_p]) (fun _ _ => rfl) (by simp; omega)
  have c5 := comp_enc (items_rowT l) (ct := fun q46 => sBool (sBin pyNe (sBin pyMod (sCallB pyInt (sCons (sOp (pyIx q46 (PyData.int 0))) (pure []))) (pure (.int (2 + (j : Int))))) (pure (PyData.int 0)))) (ce := fun q => pure q)
    (fun r => decide (r.num % (2 + (j : Int)) ≠ 0)) fr (fun r _ => by simp only [fx0, sOp_d, sCons_p, sCallB_p, int_i, sBin_p, mod_ints m0, pyNe_ii, sBool_p]) (fun _ _ => rfl) (by omega)
  have e45 : ((List.filter (fun k : Nat => decide ((evR 0 l (k : Rat)).num % (2 + (j : Int)) ≠ 0)) (List.range n)).map fun k : Nat => PyData.int (k : Int)).isEmpty = ((List.filter (fun r : Rat => decide (r.num % (2 + (j : Int)) ≠ 0)) l).map fr).isEmpty := by
    refine emp_iff ?_
    rw [filt_nil, filt_nil]
    have key := mu_row (m := 2 + (j : Int)) tl ll
    have ev1 : ∀ k : Nat, Mu 1 (evR 0 l (k : Rat)) := fun k => mu_ev (n := (k : Int)) l 0 hl1
    constructor
    · intro h x hx
      exact (mod_k (hl1 x hx)).mpr (key.mpr (fun k hk => (mod_k (ev1 k)).mp (h k (List.mem_range.mpr hk))) x hx)
    · intro h k hk
      exact (mod_k (ev1 k)).mpr (key.mp (fun x hx => (mod_k (hl1 x hx)).mp (h x hx)) k (List.mem_range.mp hk))
  simp only [pyAdd_ii, sOp_d, pure_bind, c4, c5, sBin_p, pyEq_l0, e45, ne_bool, sBool_p, sIf_p, Bool.false_eq_true, if_false]
  exact Tot.pure ⟨_, rfl, trivial⟩
theorem last1 : LR.t_row_poly (rowT [0, 0, 1]) = pure (rowT [0, Rat.divInt (-1) 2, Rat.divInt 1 2]) := by
  rw [t_row_poly_eq (a := [0, 0, 1]) (M := 4) (K := 1) (by simp) (by omega) (by omega) (fun c hc => by
    simp only [List.mem_cons, List.not_mem_nil, or_false] at hc
    rcases hc with rfl | rfl | rfl
    · exact Sz.zero
    · exact Sz.zero
    · exact Sz.one (by omega))]
  congr 2
  decide +kernel
theorem last2 : LR.t_row_through (rowL []) = pure (rowT []) := t_row_through_eq (u := []) (rowL []) (.inr rfl) (by simp) fun j => by
  have : ∀ j, difN j ([] : List Rat) = [] := fun j => by induction j with
    | zero => rfl
    | succ j ih => exact ih
  rw [this]
  exact fun c hc => by cases hc
theorem law_holds (ns : List Int) (h : ns.length ≤ 63) (hb : ∀ z ∈ ns, Builtin.Int.intBits z ≤ 1048576) : WpF (fm_law [.scr ns] none) fun ev _ => ev = .d (.bool true) := by
  refine law_of_T (tf_law ns) ?_
  obtain ⟨g1, h1, l1⟩ := tot_src h
  have main : Tot ((((sRange1 (pure (.int 4))) >>= fun xs_ => forO (κ := Empty) (fun w_ x_ => S.opt (un1 x_) >>= tlb_law_1 w_) xs_ ()) >>= outR fun v49 => (sAndV (sBin pyEq ((sTup (sCons (sTup (sCons (pure (.int 0)) (sCons (pure (.int 1)) sNil))) (sCons (sTup (sCons (pure (.int 0)) (sCons (pure (.int 1)) sNil))) (sCons (sTup (sCons (pure (.int 1)) (sCons (pure (.int 1)) sNil))) sNil)))) >>= fun y50 => t_row_poly y50) (sTup (sCons (sTup (sCons (pure (.int 0)) (sCons (pure (.int 1)) sNil))) (sCons (sTup (sCons (sUn pyNeg (pure (.int 1))) (sCons (pure (.int 2)) sNil))) (sCons (sTup (sCons (pure (.int 1)) (sCons (pure (.int 2)) sNil))) sNil))))) (sBin pyEq ((sLst sNil) >>= fun y51 => t_row_through y51) (sTup sNil))))) fun x => x = .bool true := by
    rw [show sRange1 (pure (.int 4)) = pure ((ints0 4).map .int) from rfl, pure_bind, forO_map]
    refine Tot.bind (Tot.forO (fun _ => True) trivial fun x hx v _ => by rw [un1_p, opt_some, pure_bind]; exact lap_ok _) fun o ⟨w, e, _⟩ => ?_
    subst e
    have h2 : (.tuple [.int (-1), .int 2] : PyData) = fr (Rat.divInt (-1) 2) := by rfl
    have h3 : (.tuple [.int 1, .int 2] : PyData) = fr (Rat.divInt 1 2) := by rfl
    have p1 : LR.t_row_poly (.tuple [fr 0, fr 0, fr 1]) = pure (.tuple [fr 0, fr (Rat.divInt (-1) 2), fr (Rat.divInt 1 2)]) := last1
    have p2 : LR.t_row_through (.list []) = pure (.tuple []) := last2
    have q1 := eq_rowT [0, Rat.divInt (-1) 2, Rat.divInt 1 2] [0, Rat.divInt (-1) 2, Rat.divInt 1 2]
    rw [decide_eq_true rfl] at q1
    have q1' : pyEq (.tuple [fr 0, fr (Rat.divInt (-1) 2), fr (Rat.divInt 1 2)]) (.tuple [fr 0, fr (Rat.divInt (-1) 2), fr (Rat.divInt 1 2)]) = some (.d (.bool true)) := q1
    have q2 : pyEq (.tuple []) (.tuple []) = some (.d (.bool true)) := rfl
    simp only [b_poly, b_through, sNil_p, sCons_p, sTup_p, sLst_p, sSz_nil, sSz_2, sSz_3, sUn_p, pyNeg_i, sOp_d, pure_bind, outR_nxt, fr_zero, fr_one, h2, h3, p1, p2, sBin_p, q1', q2, sAndV_p, if_true]
    exact Tot.pure rfl
  obtain ⟨x, g2, h2, _, e⟩ := main g1 l1
  subst e
  refine ⟨g2, ?_⟩
  unfold t_law
  rw [S.bind_def, h1]
  exact h2
end LGk34
open PySem PySem.W PyProof.Rows
set_option maxHeartbeats 0 in
theorem PySem.Challenge.cw_littleorders_k34_whole_rows_through_wort_holds : PySem.Challenge.rw_littleorders_k34_whole_rows_through_wort.Holds := by
  w_on; o_law; k_head; (case hw => w_witness2)
  k_fill
  refine DL.walk_ofD (l := PySem.Challenge.rw_littleorders_k34_whole_rows_through_wort) (n := 63) (k := 5) (x := "script") (fm := LGk34.fm_law) rfl (by decide) rfl ⟨rfl, by decide, by decide⟩ (by decide +kernel) (fun w h Y => PySem.W.kIn_of Y) ?F LGk34.law_holds
  case F =>
    intro w mg fa h KX G hmg
    refine' LGk34.all_mk KX G hmg ?a0 ?l0 ?c0 ?k0 ?a1 ?l1 ?c1 ?k1 ?a2 ?l2 ?c2 ?k2 ?a3 ?l3 ?c3 ?k3 ?a4 ?l4 ?c4 ?k4 ?a5 ?l5 ?c5 ?k5 ?a6 ?l6 ?c6 ?k6 ?a7 ?l7 ?c7 ?k7 ?a8 ?l8 ?c8 ?k8 ?a9 ?l9 ?c9 ?k9 ?a10 ?l10 ?c10 ?k10 ?a11 ?l11 ?c11 ?k11 ?a12 ?l12 ?c12 ?k12 ?a13 ?l13 ?c13 ?k13 ?a14 ?l14 ?c14 ?k14 ?a15 ?l15 ?c15 ?k15 ?a16 ?l16 ?c16 ?k16 ?a17 ?l17 ?c17 ?k17 ?a18 ?l18 ?c18 ?k18 ?a19 ?l19 ?c19 ?k19 ?a20 ?l20 ?c20 ?k20 ?a21 ?l21 ?c21 ?k21 ?a22 ?l22 ?c22 ?k22 ?a23 ?l23 ?c23 ?k23 ?a24 ?l24 ?c24 ?k24 ?a25 ?l25 ?c25 ?k25 ?a26 ?l26 ?c26 ?k26 ?a27 ?l27 ?c27 ?k27 ?z0 ?z1 ?z2 ?z3 ?z4 ?z5 ?z6 ?z7 ?z8 ?z9 ?z10 ?b0_ ?q0_ ?r0_ ?s0_ ?t0_ ?q1_ ?r1_ ?s1_ ?t1_
    (case a0 => k_is)
    (case l0 => k_is)
    (case c0 => k_is)
    (case k0 => k_is)
    (case a1 => k_is)
    (case l1 => k_is)
    (case c1 => k_is)
    (case k1 => k_is)
    (case a2 => k_is)
    (case l2 => k_is)
    (case c2 => k_is)
    (case k2 => k_is)
    (case a3 => k_is)
    (case l3 => k_is)
    (case c3 => k_is)
    (case k3 => k_is)
    (case a4 => k_is)
    (case l4 => k_is)
    (case c4 => k_is)
    (case k4 => k_is)
    (case a5 => k_is)
    (case l5 => k_is)
    (case c5 => k_is)
    (case k5 => k_is)
    (case a6 => k_is)
    (case l6 => k_is)
    (case c6 => k_is)
    (case k6 => k_is)
    (case a7 => k_is)
    (case l7 => k_is)
    (case c7 => k_is)
    (case k7 => k_is)
    (case a8 => k_is)
    (case l8 => k_is)
    (case c8 => k_is)
    (case k8 => k_is)
    (case a9 => k_is)
    (case l9 => k_is)
    (case c9 => k_is)
    (case k9 => k_is)
    (case a10 => k_is)
    (case l10 => k_is)
    (case c10 => k_is)
    (case k10 => k_is)
    (case a11 => k_is)
    (case l11 => k_is)
    (case c11 => k_is)
    (case k11 => k_is)
    (case a12 => k_is)
    (case l12 => k_is)
    (case c12 => k_is)
    (case k12 => k_is)
    (case a13 => k_is)
    (case l13 => k_is)
    (case c13 => k_is)
    (case k13 => k_is)
    (case a14 => k_is)
    (case l14 => k_is)
    (case c14 => k_is)
    (case k14 => k_is)
    (case a15 => k_is)
    (case l15 => k_is)
    (case c15 => k_is)
    (case k15 => k_is)
    (case a16 => k_is)
    (case l16 => k_is)
    (case c16 => k_is)
    (case k16 => k_is)
    (case a17 => k_is)
    (case l17 => k_is)
    (case c17 => k_is)
    (case k17 => k_is)
    (case a18 => k_is)
    (case l18 => k_is)
    (case c18 => k_is)
    (case k18 => k_is)
    (case a19 => k_is)
    (case l19 => k_is)
    (case c19 => k_is)
    (case k19 => k_is)
    (case a20 => k_is)
    (case l20 => k_is)
    (case c20 => k_is)
    (case k20 => k_is)
    (case a21 => k_is)
    (case l21 => k_is)
    (case c21 => k_is)
    (case k21 => k_is)
    (case a22 => k_is)
    (case l22 => k_is)
    (case c22 => k_is)
    (case k22 => k_is)
    (case a23 => k_is)
    (case l23 => k_is)
    (case c23 => k_is)
    (case k23 => k_is)
    (case a24 => k_is)
    (case l24 => k_is)
    (case c24 => k_is)
    (case k24 => k_is)
    (case a25 => k_is)
    (case l25 => k_is)
    (case c25 => k_is)
    (case k25 => k_is)
    (case a26 => k_is)
    (case l26 => k_is)
    (case c26 => k_is)
    (case k26 => k_is)
    (case a27 => k_is)
    (case l27 => k_is)
    (case c27 => k_is)
    (case k27 => k_is)
    (case z0 => k_is)
    (case z1 => k_is)
    (case z2 => k_is)
    (case z3 => k_is)
    (case z4 => k_is)
    (case z5 => k_is)
    (case z6 => k_is)
    (case z7 => k_is)
    (case z8 => k_is)
    (case z9 => k_is)
    (case z10 => k_is)
    (case b0_ => k_is)
    (case q0_ => k_is)
    (case r0_ => k_is)
    (case s0_ => decide)
    (case t0_ => exact ⟨⟨_, rfl⟩, ⟨_, rfl⟩, trivial⟩)
    (case q1_ => k_is)
    (case r1_ => k_is)
    (case s1_ => decide)
    (case t1_ => exact ⟨⟨_, rfl⟩, ⟨_, rfl⟩, trivial⟩)
