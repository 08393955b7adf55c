import PyProof.Rows.All
import Wide.All
import OpenK.AllK
import Wide.FinOn
import HandS.ForMost
import HandS.TupAny
import HandS.Wide
import HandS.RaiseMore
import HandS.Deep
import HandS.Style
import KE.GoesEnum
import KE.GoesNew
import HandS.Zip
import HandS.Rev
import HandS.Walk
import KE.DataCmp
import KE.SortCalls
import KE.SortData
import HandS.SortInts
import HandS.Conv
import HandS.IsInst
import HandS.WordsDict
import HandS.Text
import HandS.SortKw
import HandS.Ends
import HandS.EndBits
import KE.KStar
import HandS.Gcd
import KE.KDictSum
import KE.DataMinMax
import KE.KDictPairs
import PyProof.AutoSeq1
import KE.GoesMore
import KE.GoesZip
import Open.SpecLaws
import KE.OsGo
import PySem.Challenge.RW_littleorders_k30_whole_tables_told_back
set_option Elab.async false
set_option linter.all false
set_option maxRecDepth 100000
set_option maxHeartbeats 4000000
set_option autoImplicit false
/-! The data layer: values as plain data, own lists by slot, a drawn source; over the hand layer. -/
namespace DL
open PySem L2
/-- the drawn source of a law -/
structure Src where
  cells : List Int
  left : Int
  mixed : Int
  turn : Int
abbrev G := Option Src
/-- what a slot holds -/
inductive Slot where
  | un
  | d (x : PyData)
  | own (x : PyData)
  | src (b : Bool)
  | scr (ns : List Int)
abbrev Env' := List Slot
/-- what an expression gives -/
inductive EV where
  | d (x : PyData)
  | fr (x : PyData)
  | bo (i : Nat)
  | src (b : Bool)
  | scr (ns : List Int)
inductive R (α : Type) where
  | ok (a : α) (e : Env') (g : G)
  | exc (c : Str) (x : PyData) (e : Env') (g : G)
  | bad
abbrev M (α : Type) := Env' → G → R α
def M.bind {α β : Type} (m : M α) (f : α → M β) : M β := fun e g => match m e g with
  | .ok a e g => f a e g
  | .exc c x e g => .exc c x e g
  | .bad => .bad
def M.pure {α : Type} (a : α) : M α := fun e g => .ok a e g
def M.bad {α : Type} : M α := fun _ _ => .bad
def M.opt {α : Type} (o : Option α) : M α := match o with
  | some a => M.pure a
  | none => M.bad
def Wp {α : Type} (r : R α) (K : α → Env' → G → Prop) (E : Str → PyData → Env' → G → Prop) : Prop := match r with
  | .ok a e g => K a e g
  | .exc c x e g => E c x e g
  | .bad => False
theorem Wp.mono {α : Type} {r : R α} {K K' : α → Env' → G → Prop} {E E' : Str → PyData → Env' → G → Prop} (h : Wp r K E) (hk : ∀ a e g, K a e g → K' a e g) (he : ∀ c x e g, E c x e g → E' c x e g) : Wp r K' E' := by
  cases r with
  | ok a e g => exact hk _ _ _ h
  | exc c x e g => exact he _ _ _ _ h
  | bad => exact h
theorem Wp.bind {α β : Type} {m : M α} {f : α → M β} {e : Env'} {g : G} {K : β → Env' → G → Prop} {E : Str → PyData → Env' → G → Prop} :
    Wp (m.bind f e g) K E ↔ Wp (m e g) (fun a e g => Wp (f a e g) K E) E := by
  unfold M.bind
  cases m e g <;> exact Iff.rfl
theorem Wp.pure {α : Type} {a : α} {e : Env'} {g : G} {K : α → Env' → G → Prop} {E : Str → PyData → Env' → G → Prop} : Wp (M.pure a e g) K E ↔ K a e g := Iff.rfl
theorem Wp.opt {α : Type} {o : Option α} {e : Env'} {g : G} {K : α → Env' → G → Prop} {E : Str → PyData → Env' → G → Prop} (h : Wp (M.opt o e g) K E) : ∃ a, o = some a ∧ K a e g := by
  cases o with
  | none => exact h.elim
  | some a => exact ⟨a, rfl, h⟩
/-! ### data at a value -/
mutual
def Rep (K : PySem.W.Frag) (F : Hp) (v : V) : PyData → Prop
  | .none => v = .non
  | .bool b => v = .bl b
  | .int i => v = .int i
  | .str s => v = .str s
  | .list ds => ∃ a vs, v = .ref a ∧ F a = some (.lst vs) ∧ RepL K F vs ds
  | .tuple ds => ∃ a vs, v = .ref a ∧ F a = some (.tup vs) ∧ RepL K F vs ds
  | .dict kvs => ∃ a kv, v = .ref a ∧ F a = some (.dK kv) ∧ RepD K F kv kvs
def RepL (K : PySem.W.Frag) (F : Hp) (vs : List V) : List PyData → Prop
  | [] => vs = []
  | d :: ds => ∃ v r, vs = v :: r ∧ Rep K F v d ∧ RepL K F r ds
def RepD (K : PySem.W.Frag) (F : Hp) (kv : List (Key × V)) : List (PyData × PyData) → Prop
  | [] => kv = []
  | p :: ps => ∃ k v r, kv = (k, v) :: r ∧ Rep K F (kV k) p.1 ∧ Rep K F v p.2 ∧ RepD K F r ps
end
theorem SqL.up {K : PySem.W.Frag} {F F' : Hp} {a : Addr} {xs : List V} (s : Same F F') (h : SqL K F a xs) : SqL K F' a xs := s.seq h
theorem SqT.up {K : PySem.W.Frag} {F F' : Hp} {a : Addr} {xs : List V} (s : Same F F') (h : SqT K F a xs) : SqT K F' a xs := by
  rcases h with (h | ⟨o, h⟩) | h
  · exact .inl (.inl (s _ _ h))
  · exact .inl (.inr ⟨o, s _ _ h⟩)
  · exact .inr h
mutual
theorem Rep.up {K : PySem.W.Frag} {F F' : Hp} (s : Same F F') : ∀ (d : PyData) (v : V), Rep K F v d → Rep K F' v d
  | .none, _, h => by simpa only [Rep] using h
  | .bool b, _, h => by simpa only [Rep] using h
  | .int i, _, h => by simpa only [Rep] using h
  | .str x, _, h => by simpa only [Rep] using h
  | .list ds, v, h => by
    simp only [Rep] at h ⊢
    obtain ⟨a, vs, e, q, r⟩ := h
    exact ⟨a, vs, e, s _ _ q, RepL.up s ds vs r⟩
  | .tuple ds, v, h => by
    simp only [Rep] at h ⊢
    obtain ⟨a, vs, e, q, r⟩ := h
    exact ⟨a, vs, e, s _ _ q, RepL.up s ds vs r⟩
  | .dict kvs, v, h => by
    simp only [Rep] at h ⊢
    obtain ⟨a, kv, e, q, r⟩ := h
    exact ⟨a, kv, e, s _ _ q, RepD.up s kvs kv r⟩
theorem RepL.up {K : PySem.W.Frag} {F F' : Hp} (s : Same F F') : ∀ (ds : List PyData) (vs : List V), RepL K F vs ds → RepL K F' vs ds
  | [], _, h => by simpa only [RepL] using h
  | d :: ds, vs, h => by
    simp only [RepL] at h ⊢
    obtain ⟨v, r, e, q, t⟩ := h
    exact ⟨v, r, e, Rep.up s d v q, RepL.up s ds r t⟩
theorem RepD.up {K : PySem.W.Frag} {F F' : Hp} (s : Same F F') : ∀ (ds : List (PyData × PyData)) (kv : List (Key × V)), RepD K F kv ds → RepD K F' kv ds
  | [], _, h => by simpa only [RepD] using h
  | p :: ps, kv, h => by
    simp only [RepD] at h ⊢
    obtain ⟨k, v, r, e, q, t, u⟩ := h
    exact ⟨k, v, r, e, Rep.up s p.1 _ q, Rep.up s p.2 v t, RepD.up s ps r u⟩
end
@[simp] theorem rep_none {K : PySem.W.Frag} {F : Hp} {v : V} : Rep K F v .none ↔ v = .non := by simp only [Rep]
@[simp] theorem rep_bool {K : PySem.W.Frag} {F : Hp} {v : V} {b : Bool} : Rep K F v (.bool b) ↔ v = .bl b := by simp only [Rep]
@[simp] theorem rep_int {K : PySem.W.Frag} {F : Hp} {v : V} {i : Int} : Rep K F v (.int i) ↔ v = .int i := by simp only [Rep]
@[simp] theorem rep_str {K : PySem.W.Frag} {F : Hp} {v : V} {s : Str} : Rep K F v (.str s) ↔ v = .str s := by simp only [Rep]
theorem rep_list {K : PySem.W.Frag} {F : Hp} {v : V} {ds : List PyData} : Rep K F v (.list ds) ↔ ∃ a vs, v = .ref a ∧ F a = some (.lst vs) ∧ RepL K F vs ds := by simp only [Rep]
theorem rep_tup {K : PySem.W.Frag} {F : Hp} {v : V} {ds : List PyData} : Rep K F v (.tuple ds) ↔ ∃ a vs, v = .ref a ∧ F a = some (.tup vs) ∧ RepL K F vs ds := by simp only [Rep]
theorem rep_tupS {K : PySem.W.Frag} {F : Hp} {v : V} {ds : List PyData} (h : Rep K F v (.tuple ds)) : ∃ a vs, v = .ref a ∧ SqT K F a vs ∧ RepL K F vs ds :=
  let ⟨a, vs, e, q, r⟩ := rep_tup.mp h
  ⟨a, vs, e, SqT.of q, r⟩
theorem rep_dict {K : PySem.W.Frag} {F : Hp} {v : V} {kvs : List (PyData × PyData)} : Rep K F v (.dict kvs) ↔ ∃ a kv, v = .ref a ∧ F a = some (.dK kv) ∧ RepD K F kv kvs := by simp only [Rep]
theorem repL_nil {K : PySem.W.Frag} {F : Hp} {vs : List V} : RepL K F vs [] ↔ vs = [] := by simp only [RepL]
theorem repL_cons {K : PySem.W.Frag} {F : Hp} {vs : List V} {d : PyData} {ds : List PyData} : RepL K F vs (d :: ds) ↔ ∃ v r, vs = v :: r ∧ Rep K F v d ∧ RepL K F r ds := by simp only [RepL]
theorem RepL.length {K : PySem.W.Frag} {F : Hp} : ∀ {ds : List PyData} {vs : List V}, RepL K F vs ds → vs.length = ds.length
  | [], vs, h => by rw [repL_nil] at h; rw [h]; rfl
  | d :: ds, vs, h => by
    rw [repL_cons] at h
    obtain ⟨v, r, rfl, _, t⟩ := h
    simp [RepL.length t]
theorem RepL.append {K : PySem.W.Frag} {F : Hp} : ∀ {ds es : List PyData} {vs us : List V}, RepL K F vs ds → RepL K F us es → RepL K F (vs ++ us) (ds ++ es)
  | [], _, vs, _, h, h2 => by rw [repL_nil] at h; rw [h]; exact h2
  | d :: ds, _, vs, _, h, h2 => by
    rw [repL_cons] at h
    obtain ⟨v, r, rfl, q, t⟩ := h
    exact repL_cons.mpr ⟨v, _, rfl, q, RepL.append t h2⟩
theorem RepL.get {K : PySem.W.Frag} {F : Hp} : ∀ {ds : List PyData} {vs : List V} {i : Nat} {v : V}, RepL K F vs ds → vs[i]? = some v → ∃ d, ds[i]? = some d ∧ Rep K F v d
  | [], vs, i, v, h, e => by rw [repL_nil] at h; rw [h] at e; simp at e
  | d :: ds, vs, i, v, h, e => by
    rw [repL_cons] at h
    obtain ⟨w, r, rfl, q, t⟩ := h
    cases i with
    | zero => simp at e; subst e; exact ⟨d, rfl, q⟩
    | succ i =>
      obtain ⟨x, hx, q⟩ := RepL.get (i := i) t (by simpa using e)
      exact ⟨x, by simpa using hx, q⟩
theorem RepL.get' {K : PySem.W.Frag} {F : Hp} : ∀ {ds : List PyData} {vs : List V} {i : Nat} {d : PyData}, RepL K F vs ds → ds[i]? = some d → ∃ v, vs[i]? = some v ∧ Rep K F v d
  | [], vs, i, v, h, e => by simp at e
  | d :: ds, vs, i, v, h, e => by
    rw [repL_cons] at h
    obtain ⟨w, r, rfl, q, t⟩ := h
    cases i with
    | zero => simp at e; subst e; exact ⟨w, rfl, q⟩
    | succ i =>
      obtain ⟨x, hx, q⟩ := RepL.get' (i := i) t (by simpa using e)
      exact ⟨x, by simpa using hx, q⟩
theorem RepL.set {K : PySem.W.Frag} {F : Hp} : ∀ {ds : List PyData} {vs : List V} {i : Nat} {v : V} {d : PyData}, RepL K F vs ds → Rep K F v d → RepL K F (vs.set i v) (ds.set i d)
  | [], vs, i, v, _, h, _ => by rw [repL_nil] at h; rw [h]; exact repL_nil.mpr rfl
  | d :: ds, vs, i, v, _, h, hv => by
    rw [repL_cons] at h
    obtain ⟨w, r, rfl, q, t⟩ := h
    cases i with
    | zero => exact repL_cons.mpr ⟨v, r, rfl, hv, t⟩
    | succ i => exact repL_cons.mpr ⟨w, _, rfl, q, RepL.set t hv⟩
theorem RepL.take {K : PySem.W.Frag} {F : Hp} : ∀ {ds : List PyData} {vs : List V} (n : Nat), RepL K F vs ds → RepL K F (vs.take n) (ds.take n)
  | _, _, 0, h => by simp; exact repL_nil.mpr rfl
  | [], vs, n + 1, h => by rw [repL_nil] at h; rw [h]; exact repL_nil.mpr rfl
  | d :: ds, vs, n + 1, h => by
    rw [repL_cons] at h
    obtain ⟨w, r, rfl, q, t⟩ := h
    exact repL_cons.mpr ⟨w, _, rfl, q, RepL.take n t⟩
theorem RepL.drop {K : PySem.W.Frag} {F : Hp} : ∀ {ds : List PyData} {vs : List V} (n : Nat), RepL K F vs ds → RepL K F (vs.drop n) (ds.drop n)
  | _, _, 0, h => h
  | [], vs, n + 1, h => by rw [repL_nil] at h; rw [h]; exact repL_nil.mpr rfl
  | d :: ds, vs, n + 1, h => by
    rw [repL_cons] at h
    obtain ⟨w, r, rfl, q, t⟩ := h
    exact RepL.drop n t
theorem RepL.of_map {K : PySem.W.Frag} {F : Hp} {α : Type} {f : α → V} {g : α → PyData} (h : ∀ a, Rep K F (f a) (g a)) : ∀ xs : List α, RepL K F (xs.map f) (xs.map g)
  | [] => repL_nil.mpr rfl
  | x :: xs => repL_cons.mpr ⟨_, _, rfl, h x, RepL.of_map h xs⟩
theorem repL_ints {K : PySem.W.Frag} {F : Hp} (ns : List Int) : RepL K F (ns.map .int) (ns.map .int) := RepL.of_map (fun _ => rep_int.mpr rfl) ns
theorem repL_ints_of {K : PySem.W.Frag} {F : Hp} : ∀ {ns : List Int} {vs : List V}, RepL K F vs (ns.map .int) → vs = ns.map V.int
  | [], vs, h => repL_nil.mp h
  | n :: ns, vs, h => by
    obtain ⟨v, r, rfl, q, t⟩ := repL_cons.mp h
    rw [rep_int.mp q, repL_ints_of t]
    rfl
theorem repL_strs_of {K : PySem.W.Frag} {F : Hp} : ∀ {ns : List Str} {vs : List V}, RepL K F vs (ns.map .str) → vs = ns.map V.str
  | [], vs, h => repL_nil.mp h
  | n :: ns, vs, h => by
    obtain ⟨v, r, rfl, q, t⟩ := repL_cons.mp h
    rw [rep_str.mp q, repL_strs_of t]
    rfl
abbrev TupAt (H : Hp) (a : Addr) : Prop := ∃ xs, H a = some (.tup xs)
/-- a dict with tuples as keys: its data's first pair is a mark -/
def isT : PyData → Bool
  | .dict ((.none, _) :: _) => true
  | _ => false
def keyD : Key → PyData
  | .inl i => .int i
  | .inr s => .str s
def RepT (K : PySem.W.Frag) (F : Hp) (kv : List (List Key × V)) : List (PyData × PyData) → Prop
  | [] => kv = []
  | p :: ps => ∃ k v r, kv = (k, v) :: r ∧ p.1 = .tuple (k.map keyD) ∧ Rep K F v p.2 ∧ RepT K F r ps
theorem RepT.up {K : PySem.W.Frag} {F F' : Hp} (s : Same F F') : ∀ (ds : List (PyData × PyData)) (kv : List (List Key × V)), RepT K F kv ds → RepT K F' kv ds
  | [], _, h => h
  | p :: ps, kv, h => by
    obtain ⟨k, v, r, e, q, t, u⟩ := h
    exact ⟨k, v, r, e, q, Rep.up s p.2 v t, RepT.up s ps r u⟩
/-- what stands at an owned address -/
def OwnRep (K : PySem.W.Frag) (F H : Hp) (a : Addr) : PyData → Prop
  | .list ds => ∃ vs, H a = some (.lst vs) ∧ RepL K F vs ds
  | .dict kvs => (∃ kv, H a = some (.dK kv) ∧ RepD K F kv kvs) ∨ ∃ kv r, kvs = (.none, .none) :: r ∧ H a = some (.dT kv) ∧ RepT K F kv r
  | _ => False
theorem OwnRep.dK {K : PySem.W.Frag} {F H : Hp} {a : Addr} {kvs : List (PyData × PyData)} (h : OwnRep K F H a (.dict kvs)) (n : isT (.dict kvs) = false) : ∃ kv, H a = some (.dK kv) ∧ RepD K F kv kvs := by
  rcases h with h | ⟨kv, r, rfl, _⟩
  · exact h
  · cases n
theorem OwnRep.dT {K : PySem.W.Frag} {F H : Hp} {a : Addr} {r : List (PyData × PyData)} (h : OwnRep K F H a (.dict ((.none, .none) :: r))) : ∃ kv, H a = some (.dT kv) ∧ RepT K F kv r := by
  rcases h with ⟨kv, _, h⟩ | ⟨kv, r', e, h⟩
  · simp only [RepD] at h
    obtain ⟨k, v, r, _, q, _⟩ := h
    cases k <;> simp [kV] at q
  · cases e
    exact ⟨kv, h⟩
theorem OwnRep.up {K : PySem.W.Frag} {F F' H H' : Hp} {a : Addr} {x : PyData} (h : OwnRep K F H a x) (s : Same F F') (k : ∀ o, H a = some o → H' a = some o) : OwnRep K F' H' a x := by
  cases x <;> try exact h
  · obtain ⟨vs, e, r⟩ := h
    exact ⟨vs, k _ e, RepL.up s _ _ r⟩
  · rcases h with ⟨vs, e, r⟩ | ⟨kv, r, e, q, t⟩
    · exact .inl ⟨vs, k _ e, RepD.up s _ _ r⟩
    · exact .inr ⟨kv, r, e, k _ q, RepT.up s _ _ t⟩
theorem OwnRep.some {K : PySem.W.Frag} {F H : Hp} {a : Addr} {x : PyData} (h : OwnRep K F H a x) : ∃ o, H a = Option.some o := by
  cases x <;> try exact h.elim
  · obtain ⟨vs, e, r⟩ := h
    exact ⟨_, e⟩
  · rcases h with ⟨vs, e, r⟩ | ⟨kv, r, e, q, t⟩
    · exact ⟨_, e⟩
    · exact ⟨_, q⟩
theorem OwnRep.notTup {K : PySem.W.Frag} {F H : Hp} {a : Addr} {x : PyData} (h : OwnRep K F H a x) : ¬ TupAt H a := fun ⟨xs, e⟩ => by
  cases x <;> try exact h.elim
  · obtain ⟨vs, q, _⟩ := h
    rw [e] at q; cases q
  · rcases h with ⟨vs, q, _⟩ | ⟨kv, r, _, q, _⟩
    · rw [e] at q; cases q
    · rw [e] at q; cases q
/-- frozen: what was owned is data -/
theorem OwnRep.freeze {K : PySem.W.Frag} {F H : Hp} {a : Addr} {x : PyData} (h : OwnRep K F H a x) (n : F a = none) (nt : isT x = false) : ∃ o, H a = Option.some o ∧ Rep K (upd F a o) (.ref a) x := by
  have s : ∀ o, Same F (upd F a o) := fun o b u e => by
    rw [upd_ne (ne_of_none e n)]
    exact e
  cases x <;> try exact h.elim
  · obtain ⟨vs, e, r⟩ := h
    exact ⟨_, e, rep_list.mpr ⟨a, vs, rfl, upd_same, RepL.up (s _) _ _ r⟩⟩
  · obtain ⟨vs, e, r⟩ := h.dK nt
    exact ⟨_, e, rep_dict.mpr ⟨a, vs, rfl, upd_same, RepD.up (s _) _ _ r⟩⟩
/-! ### the source -/
abbrev Loc := Option (Addr × Addr)
def SrcAt (l : Loc) (a : Addr) : Prop := ∃ p, l = some p ∧ (a = p.1 ∨ a = p.2)
def srcDict (c : Addr) (s : Src) : HO := .dK [(.inr "cells", .ref c), (.inr "left", .int s.left), (.inr "mixed", .int s.mixed), (.inr "turn", .int s.turn)]
def SrcRep (F H : Hp) : Loc → G → Prop
  | none, none => True
  | some (d, c), some s => d ≠ c ∧ H d = some (srcDict c s) ∧ H c = some (.lst (s.cells.map .int)) ∧ F d = none ∧ F c = none
  | _, _ => False
theorem SrcRep.notTup {F H : Hp} {l : Loc} {g : G} (r : SrcRep F H l g) {a : Addr} (s : SrcAt l a) : ¬ TupAt H a := fun ⟨xs, e⟩ => by
  obtain ⟨⟨d, c⟩, q, z⟩ := s
  subst q
  cases g with
  | none => exact r.elim
  | some s =>
    obtain ⟨_, h1, h2, _, _⟩ := r
    rcases z with z | z
    · rw [z] at e; rw [h1] at e; cases e
    · rw [z] at e; rw [h2] at e; cases e
/-! ### the state -/
/-- what is fixed in a def's body: the written part, the data and the heap at its entry, what is wished of an exception, how one is borne -/
structure DCx where
  K : PySem.W.Frag
  F0 : Hp
  H0 : Hp
  l0 : Loc
  W : (Value → Option Addr → L2.St → Hp → Prop)
  XR : Str → PyData → Value → Option Addr → Hp → Hp → Prop
def OwnAt (σ : L2.St) (env : Env') (a : Addr) : Prop := ∃ (i : Nat) (x : PyData), env[i]? = some (Slot.own x) ∧ σ[i]? = some (some (V.ref a))
structure Rel (C : DCx) (σ : L2.St) (F H : Hp) (l : Loc) (env : Env') (g : G) : Prop where
  sub : Same F H
  len : σ.length = env.length
  dat : ∀ (i : Nat) (x : PyData), env[i]? = some (Slot.d x) → ∃ v, σ[i]? = some (some v) ∧ Rep C.K F v x
  own : ∀ (i : Nat) (x : PyData), env[i]? = some (Slot.own x) → ∃ a, σ[i]? = some (some (V.ref a)) ∧ OwnRep C.K F H a x ∧ F a = none ∧ C.H0 a = none ∧ ¬ SrcAt l a
  inj : ∀ (i j : Nat) (x y : PyData) (a : Addr), env[i]? = some (Slot.own x) → env[j]? = some (Slot.own y) → σ[i]? = some (some (V.ref a)) → σ[j]? = some (some (V.ref a)) → i = j
  iscr : ∀ (i : Nat) (ns : List Int), env[i]? = some (Slot.scr ns) → ∃ a, σ[i]? = some (some (V.ref a)) ∧ SqL C.K F a (ns.map V.int)
  isrc : ∀ (i : Nat) (b : Bool), env[i]? = some (Slot.src b) → ∃ d c, l = some (d, c) ∧ σ[i]? = some (some (V.ref (if b then c else d)))
  src : SrcRep F H l g
  old : ∀ a o, C.H0 a = some o → ¬ SrcAt C.l0 a → H a = some o
  oldd : ∀ a, C.H0 a ≠ none → H a ≠ none
  f0 : Same C.F0 F
  fo : ∀ a, F a ≠ none → C.F0 a ≠ none ∨ C.H0 a = none ∨ (TupAt C.H0 a ∧ ¬ SrcAt C.l0 a)
  lo : ∀ a, SrcAt l a → SrcAt C.l0 a ∨ C.H0 a = none
  l0 : ∀ p, C.l0 = some p → l = some p
/-- from one state to a later one; O, O': the addresses that slots own -/
structure ExtO (O : Addr → Prop) (F H : Hp) (l : Loc) (F' H' : Hp) (l' : Loc) (O' : Addr → Prop) : Prop where
  fs : Same F F'
  hd : ∀ a, H a ≠ none → H' a ≠ none
  hk : ∀ a o, H a = some o → ¬ O a → ¬ SrcAt l a → H' a = some o
  gr : ∀ a, F' a ≠ none → F a ≠ none ∨ H a = none ∨ O a ∨ (TupAt H a ∧ ¬ SrcAt l a)
  ow : ∀ a, O' a → O a
  ls : ∀ p, l = some p → l' = some p
  ln : ∀ a, SrcAt l' a → SrcAt l a ∨ H a = none
/-- within an expression -/
abbrev Ext (σ : L2.St) (F H : Hp) (l : Loc) (env : Env') (F' H' : Hp) (l' : Loc) (env' : Env') : Prop := ExtO (OwnAt σ env) F H l F' H' l' (OwnAt σ env')
theorem ExtO.refl {O : Addr → Prop} {F H : Hp} {l : Loc} : ExtO O F H l F H l O :=
  ⟨fun _ _ e => e, fun _ e => e, fun _ _ e _ _ => e, fun _ e => .inl e, fun _ e => e, fun _ e => e, fun _ e => .inl e⟩
theorem Ext.refl {σ : L2.St} {F H : Hp} {l : Loc} {env : Env'} : Ext σ F H l env F H l env := ExtO.refl
theorem SrcAt.up {l l' : Loc} (h : ∀ p, l = some p → l' = some p) {a : Addr} (s : SrcAt l a) : SrcAt l' a := let ⟨p, e, q⟩ := s; ⟨p, h p e, q⟩
theorem SrcRep.srcF {F H : Hp} {l : Loc} {g : G} (r : SrcRep F H l g) {a : Addr} (s : SrcAt l a) : F a = none := by
  obtain ⟨⟨d, c⟩, e, q⟩ := s
  subst e
  cases g with
  | none => exact r.elim
  | some s =>
    obtain ⟨_, _, _, h1, h2⟩ := r
    rcases q with q | q <;> rw [q] <;> assumption
theorem SrcRep.srcH {F H : Hp} {l : Loc} {g : G} (r : SrcRep F H l g) {a : Addr} (s : SrcAt l a) : ∃ o, H a = some o := by
  obtain ⟨⟨d, c⟩, e, q⟩ := s
  subst e
  cases g with
  | none => exact r.elim
  | some s =>
    obtain ⟨_, h1, h2, _, _⟩ := r
    rcases q with q | q <;> rw [q] <;> exact ⟨_, by assumption⟩
theorem Rel.ownF {C : DCx} {σ : L2.St} {F H : Hp} {l : Loc} {env : Env'} {g : G} (r : Rel C σ F H l env g) {a : Addr} (s : OwnAt σ env a) : F a = none ∧ C.H0 a = none ∧ ¬ SrcAt l a ∧ ∃ o, H a = some o := by
  obtain ⟨i, x, h1, h2⟩ := s
  obtain ⟨b, e, o, f, h, n⟩ := r.own i x h1
  rw [h2] at e
  cases e
  exact ⟨f, h, n, o.some⟩
theorem Rel.foT {C : DCx} {σ : L2.St} {F H : Hp} {l : Loc} {env : Env'} {g : G} (r : Rel C σ F H l env g) {a : Addr} (q : TupAt H a) : C.F0 a ≠ none ∨ C.H0 a = none ∨ (TupAt C.H0 a ∧ ¬ SrcAt C.l0 a) := by
  have ns : ¬ SrcAt C.l0 a := fun ⟨p, e, z⟩ => r.src.notTup ⟨p, r.l0 p e, z⟩ q
  cases h : C.H0 a with
  | none => exact .inr (.inl rfl)
  | some o =>
    obtain ⟨xs, q⟩ := q
    have := r.old a o h ns
    rw [q] at this
    cases this
    exact .inr (.inr ⟨⟨xs, h⟩, ns⟩)
theorem none_of_none {H H' : Hp} (hd : ∀ a, H a ≠ none → H' a ≠ none) {a : Addr} (h : H' a = none) : H a = none :=
  Classical.byContradiction fun z => hd a z h
theorem ExtO.trans {O O1 O2 : Addr → Prop} {F H F1 H1 F2 H2 : Hp} {l l1 l2 : Loc} (a : ExtO O F H l F1 H1 l1 O1) (b : ExtO O1 F1 H1 l1 F2 H2 l2 O2) : ExtO O F H l F2 H2 l2 O2 where
  fs := a.fs.trans b.fs
  hd := fun x h => b.hd x (a.hd x h)
  hk := fun x o h n1 n2 => b.hk x o (a.hk x o h n1 n2) (fun z => n1 (a.ow x z)) fun z => (a.ln x z).elim n2 fun z => by rw [h] at z; cases z
  gr := fun x h => by
    rcases b.gr x h with h1 | h1 | h1 | ⟨⟨xs, h1⟩, h2⟩
    · exact a.gr x h1
    · exact .inr (.inl (none_of_none a.hd h1))
    · exact .inr (.inr (.inl (a.ow x h1)))
    · have n2 : ¬ SrcAt l x := fun ⟨p, e, q⟩ => h2 ⟨p, a.ls p e, q⟩
      cases q : H x with
      | none => exact .inr (.inl rfl)
      | some o =>
        by_cases z : O x
        · exact .inr (.inr (.inl z))
        · have := a.hk x o q z n2
          rw [h1] at this
          cases this
          exact .inr (.inr (.inr ⟨⟨xs, q⟩, n2⟩))
  ow := fun x h => a.ow x (b.ow x h)
  ls := fun p h => b.ls p (a.ls p h)
  ln := fun x h => by
    rcases b.ln x h with h1 | h1
    · exact a.ln x h1
    · exact .inr (none_of_none a.hd h1)
theorem ExtO.conv {O O' P P' : Addr → Prop} {F H F1 H1 : Hp} {l l1 : Loc} (a : ExtO O F H l F1 H1 l1 O') (h : ∀ x, O x → P x) (h' : ∀ x, P' x → P x) : ExtO P F H l F1 H1 l1 P' :=
  ⟨a.fs, a.hd, fun x o e n1 n2 => a.hk x o e (fun z => n1 (h x z)) n2, fun x e => (a.gr x e).elim .inl fun z => .inr (z.elim .inl fun z => .inr (z.elim (fun z => .inl (h x z)) .inr)), h', a.ls, a.ln⟩
theorem Ext.trans {C : DCx} {σ : L2.St} {F H F1 H1 F2 H2 : Hp} {l l1 l2 : Loc} {env env1 env2 : Env'} (a : Ext σ F H l env F1 H1 l1 env1) (b : Ext σ F1 H1 l1 env1 F2 H2 l2 env2) : Ext σ F H l env F2 H2 l2 env2 := ExtO.trans a b
/-- what an expression's value is -/
def RepEV (C : DCx) (σ : L2.St) (F H : Hp) (l : Loc) (env : Env') (v : V) : EV → Prop
  | .d x => Rep C.K F v x
  | .fr x => ∃ a, v = V.ref a ∧ OwnRep C.K F H a x ∧ F a = none ∧ C.H0 a = none ∧ ¬ SrcAt l a ∧ ¬ OwnAt σ env a
  | .bo i => σ[i]? = some (some v)
  | .src b => ∃ d c, l = some (d, c) ∧ v = V.ref (if b then c else d)
  | .scr ns => ∃ a, v = V.ref a ∧ SqL C.K F a (ns.map V.int)
theorem RepEV.up {C : DCx} {σ : L2.St} {F H F' H' : Hp} {l l' : Loc} {env env' : Env'} {v : V} {ev : EV} (h : RepEV C σ F H l env v ev) (x : Ext σ F H l env F' H' l' env') : RepEV C σ F' H' l' env' v ev := by
  cases ev with
  | d y => exact Rep.up x.fs _ _ h
  | fr y =>
    obtain ⟨a, e, o, f, h0, ns, no⟩ := h
    obtain ⟨u, hu⟩ := o.some
    refine ⟨a, e, o.up x.fs fun u q => x.hk a u q no ns, ?_, h0, fun z => ?_, fun z => no (x.ow a z)⟩
    · refine Classical.byContradiction fun z => ?_
      rcases x.gr a z with q | q | q | ⟨q, _⟩
      · exact q f
      · rw [hu] at q; cases q
      · exact no q
      · exact o.notTup q
    · rcases x.ln a z with q | q
      · exact ns q
      · rw [hu] at q; cases q
  | bo i => exact h
  | src b =>
    obtain ⟨d, c, e, q⟩ := h
    exact ⟨d, c, x.ls _ e, q⟩
  | scr ns =>
    obtain ⟨a, e, q⟩ := h
    exact ⟨a, e, x.fs.seq q⟩
/-- the data that an expression's value is, as the slots stand -/
def look (env : Env') : EV → Option PyData
  | .d x => some x
  | .fr x => if isT x = true then none else some x
  | .bo i => match env[i]? with
    | some (.own x) => if isT x = true then none else some x
    | some (.d x) => some x
    | _ => none
  | .src _ => none
  | .scr _ => none
/-- data at a value, for reading: in the frozen part, or owned -/
def Bor (K : PySem.W.Frag) (F H : Hp) (v : V) (x : PyData) : Prop := Rep K F v x ∨ ∃ a, v = V.ref a ∧ OwnRep K F H a x ∧ isT x = false
theorem RepEV.look {C : DCx} {σ : L2.St} {F H : Hp} {l : Loc} {env : Env'} {g : G} {v : V} {ev : EV} {x : PyData} (h : RepEV C σ F H l env v ev) (r : Rel C σ F H l env g) (e : look env ev = some x) : Bor C.K F H v x := by
  cases ev with
  | d y => cases e; exact .inl h
  | fr y =>
    replace e : (if isT y = true then none else some y) = some x := e
    split at e
    · cases e
    · rename_i nt
      cases e
      obtain ⟨a, e, o, _⟩ := h
      exact .inr ⟨a, e, o, by simpa using nt⟩
  | bo i =>
    have h : σ[i]? = some (some v) := h
    replace e : (match env[i]? with | some (Slot.own x) => (if isT x = true then none else some x) | some (Slot.d x) => some x | _ => none) = some x := e
    split at e
    · rename_i y q
      have nt : isT y = false ∧ y = x := by
        split at e
        · cases e
        · rename_i z; cases e; exact ⟨by simpa using z, rfl⟩
      obtain ⟨nt, rfl⟩ := nt
      obtain ⟨a, q1, o, _⟩ := r.own i _ q
      rw [h] at q1
      cases q1
      exact .inr ⟨a, rfl, o, nt⟩
    · rename_i y q
      cases e
      obtain ⟨u, q1, o⟩ := r.dat i _ q
      rw [h] at q1
      cases q1
      exact .inl o
    · cases e
  | src b => cases e
  | scr ns => cases e
/-! ### judgements -/
/-- a fresh one was not there ahead -/
def FreshAt (H : Hp) (v : V) : EV → Prop
  | .fr _ => ∀ a, v = V.ref a → H a = none
  | _ => True
/-- what is wanted behind an expression -/
def KE (C : DCx) (σ : L2.St) (F H : Hp) (l : Loc) (env : Env') (Q : VK) : EV → Env' → G → Prop := fun ev env' g' =>
  ∀ v F' H' l', Rel C σ F' H' l' env' g' → Ext σ F H l env F' H' l' env' → RepEV C σ F' H' l' env' v ev → FreshAt H v ev → Q v H'
def KX (C : DCx) (σ : L2.St) : Str → PyData → Env' → G → Prop := fun c x env' g' =>
  ∀ F' H' l' cls d, Rel C σ F' H' l' env' g' → C.XR c x cls d F' H' → C.W cls d σ H'
theorem FreshAt.dn {H H1 : Hp} {v : V} {ev : EV} (h : FreshAt H1 v ev) (hd : ∀ a, H a ≠ none → H1 a ≠ none) : FreshAt H v ev := by
  cases ev with
  | fr x => exact fun a e => none_of_none hd (h a e)
  | _ => trivial
theorem KE.up {C : DCx} {σ : L2.St} {F H F1 H1 : Hp} {l l1 : Loc} {env env1 : Env'} {Q : VK} {ev : EV} {env' : Env'} {g' : G} (h : KE C σ F H l env Q ev env' g') (x : Ext σ F H l env F1 H1 l1 env1) : KE C σ F1 H1 l1 env1 Q ev env' g' :=
  fun v F' H' l' r y p f => h v F' H' l' r (x.trans (C := C) y) p (f.dn x.hd)
def SimE (C : DCx) (t : TE) (m : M EV) : Prop := ∀ (σ : L2.St) (F H : Hp) (l : Loc) (env : Env') (g : G) (Q : VK), Rel C σ F H l env g → Wp (m env g) (KE C σ F H l env Q) (KX C σ) → t σ H Q
/-- an expression -/
structure DE (X : Cx) (C : DCx) (e : Expr) (m : M EV) : Prop where
  run : C.K = X.K → ∃ t, PE X e t ∧ SimE C t m
/-- frozen data -/
def KD (C : DCx) (σ : L2.St) (F H : Hp) (l : Loc) (env : Env') (Q : VK) : PyData → Env' → G → Prop := fun x env' g' =>
  ∀ v F' H' l', Rel C σ F' H' l' env' g' → Ext σ F H l env F' H' l' env' → Rep C.K F' v x → Q v H'
def SimD (C : DCx) (t : TE) (m : M PyData) : Prop := ∀ (σ : L2.St) (F H : Hp) (l : Loc) (env : Env') (g : G) (Q : VK), Rel C σ F H l env g → Wp (m env g) (KD C σ F H l env Q) (KX C σ) → t σ H Q
structure DD (X : Cx) (C : DCx) (e : Expr) (m : M PyData) : Prop where
  run : C.K = X.K → ∃ t, PE X e t ∧ SimD C t m
/-- a test -/
def KT (C : DCx) (σ : L2.St) (F H : Hp) (l : Loc) (env : Env') (Q : Bool → Hp → Prop) : Bool → Env' → G → Prop := fun b env' g' =>
  ∀ F' H' l', Rel C σ F' H' l' env' g' → Ext σ F H l env F' H' l' env' → Q b H'
def SimT (C : DCx) (t : TT) (m : M Bool) : Prop := ∀ (σ : L2.St) (F H : Hp) (l : Loc) (env : Env') (g : G) (Q : Bool → Hp → Prop), Rel C σ F H l env g → Wp (m env g) (KT C σ F H l env Q) (KX C σ) → t σ H Q
structure DT (X : Cx) (C : DCx) (e : Expr) (m : M Bool) : Prop where
  run : C.K = X.K → ∃ t, PT X e t ∧ SimT C t m
structure DW (X : Cx) (C : DCx) (e : Expr) (m : M Bool) : Prop where
  run : C.K = X.K → ∃ t, PW X e t ∧ SimT C t m
/-- a list of arguments, as they come -/
def Fresh2 (H : Hp) (vs : List V) (evs : List EV) : Prop := Paired (fun v ev => FreshAt H v ev) vs evs
def KA (C : DCx) (σ : L2.St) (F H : Hp) (l : Loc) (env : Env') (Q : List V → Hp → Prop) : List EV → Env' → G → Prop := fun evs env' g' =>
  ∀ vs F' H' l', Rel C σ F' H' l' env' g' → Ext σ F H l env F' H' l' env' → Paired (fun v ev => RepEV C σ F' H' l' env' v ev ∧ FreshAt H v ev) vs evs → Q vs H'
def SimA (C : DCx) (t : TA) (m : M (List EV)) : Prop := ∀ (σ : L2.St) (F H : Hp) (l : Loc) (env : Env') (g : G) (Q : List V → Hp → Prop), Rel C σ F H l env g → Wp (m env g) (KA C σ F H l env Q) (KX C σ) → t σ H Q
structure DA (X : Cx) (C : DCx) (es : List Expr) (m : M (List EV)) : Prop where
  run : C.K = X.K → ∃ t, PA X es t ∧ SimA C t m
theorem Paired.imp {α β : Type} {P P' : α → β → Prop} (h : ∀ a b, P a b → P' a b) : ∀ {xs : List α} {ys : List β}, Paired P xs ys → Paired P' xs ys
  | _, _, .nil => .nil
  | _, _, .cons r t => .cons (h _ _ r) (Paired.imp h t)
end DL
namespace DL
open PySem L2
/-! ### results of an operation on values: new objects come, nothing else changes -/
inductive RV where
  | d (x : PyData)
  | fr (x : PyData)
def RV.ev : RV → EV
  | .d x => .d x
  | .fr x => .fr x
structure New (K : PySem.W.Frag) (F H F' H' : Hp) (v : V) (r : RV) : Prop where
  fs : Same F F'
  hs : Same H H'
  sub : Same F' H'
  gr : ∀ a, F' a ≠ none → F a ≠ none ∨ H a = none ∨ TupAt H a
  rep : match r with
    | .d x => Rep K F' v x
    | .fr x => ∃ a, v = V.ref a ∧ H a = none ∧ F' a = none ∧ OwnRep K F' H' a x
def ResK (K : PySem.W.Frag) (F H : Hp) (Q : VK) (r : RV) : Prop := ∀ v F' H', New K F H F' H' v r → Q v H'
theorem Same.upd {H : Hp} {p : Addr} {o : HO} (n : H p = none) : Same H (upd H p o) := fun b u e => by
  rw [upd_ne (ne_of_none e n)]
  exact e
theorem none_sub {F H : Hp} (s : Same F H) {p : Addr} (n : H p = none) : F p = none := s.free n
theorem ResK.val {K : PySem.W.Frag} {F H : Hp} {Q : VK} {x : PyData} {v : V} (s : Same F H) (h : ResK K F H Q (.d x)) (r : Rep K F v x) : Q v H :=
  h v F H ⟨.refl _, .refl _, s, fun _ e => .inl e, r⟩
theorem ResK.tup {K : PySem.W.Frag} {F H : Hp} {Q : VK} {ds : List PyData} {vs : List V} {p : Addr} (s : Same F H) (h : ResK K F H Q (.d (.tuple ds))) (n : H p = none) (r : RepL K F vs ds) : Q (.ref p) (upd H p (.tup vs)) := by
  have nf := none_sub s n
  refine h _ (upd F p (.tup vs)) _ ⟨Same.upd nf, Same.upd n, fun b o e => ?_, fun a e => ?_, ?_⟩
  · by_cases hb : b = p
    · subst hb; rw [upd_same] at e ⊢; exact e
    · rw [upd_ne hb] at e ⊢; exact s _ _ e
  · by_cases hb : a = p
    · subst hb; exact .inr (.inl n)
    · rw [upd_ne hb] at e; exact .inl e
  · exact rep_tup.mpr ⟨p, vs, rfl, upd_same, RepL.up (Same.upd nf) _ _ r⟩
theorem ResK.lst {K : PySem.W.Frag} {F H : Hp} {Q : VK} {ds : List PyData} {vs : List V} {p : Addr} (s : Same F H) (h : ResK K F H Q (.fr (.list ds))) (n : H p = none) (r : RepL K F vs ds) : Q (.ref p) (upd H p (.lst vs)) :=
  h _ F _ ⟨.refl _, Same.upd n, s.trans (Same.upd n), fun _ e => .inl e, p, rfl, n, none_sub s n, vs, upd_same, r⟩
theorem ResK.dict {K : PySem.W.Frag} {F H : Hp} {Q : VK} {ds : List (PyData × PyData)} {vs : List (Key × V)} {p : Addr} (s : Same F H) (h : ResK K F H Q (.fr (.dict ds))) (n : H p = none) (r : RepD K F vs ds) : Q (.ref p) (upd H p (.dK vs)) :=
  h _ F _ ⟨.refl _, Same.upd n, s.trans (Same.upd n), fun _ e => .inl e, p, rfl, n, none_sub s n, .inl ⟨vs, upd_same, r⟩⟩
theorem Rel.new {C : DCx} {σ : L2.St} {F H F' H' : Hp} {l : Loc} {env : Env'} {g : G} {v : V} {r : RV} (R : Rel C σ F H l env g) (n : New C.K F H F' H' v r) :
    Rel C σ F' H' l env g ∧ Ext σ F H l env F' H' l env ∧ RepEV C σ F' H' l env v r.ev := by
  have nf : ∀ a, (∃ o, H a = some o) → ¬ TupAt H a → F a = none → F' a = none := fun a ⟨o, ho⟩ nt hf => Classical.byContradiction fun z => by
    rcases n.gr a z with q | q | q
    · exact q hf
    · rw [ho] at q; cases q
    · exact nt q
  have srcs : SrcRep F' H' l g := by
    have q := R.src
    cases l with
    | none => cases g with
      | none => trivial
      | some s => exact q.elim
    | some p => cases g with
      | none => exact q.elim
      | some s =>
        obtain ⟨h1, h2, h3, h4, h5⟩ := q
        exact ⟨h1, n.hs _ _ h2, n.hs _ _ h3, nf _ ⟨_, h2⟩ (fun ⟨xs, e⟩ => by rw [h2] at e; cases e) h4, nf _ ⟨_, h3⟩ (fun ⟨xs, e⟩ => by rw [h3] at e; cases e) h5⟩
  refine ⟨⟨n.sub, R.len, fun i x e => ?_, fun i x e => ?_, R.inj, fun i ns e => ?_, R.isrc, srcs, fun a o e ns => n.hs _ _ (R.old a o e ns), fun a e => ?_, R.f0.trans n.fs, fun a e => ?_, R.lo, R.l0⟩,
    ⟨n.fs, fun a e => ?_, fun a o e _ _ => n.hs _ _ e, fun a e => (n.gr a e).elim .inl fun z => z.elim (fun z => .inr (.inl z)) fun z => .inr (.inr (.inr ⟨z, fun y => R.src.notTup y z⟩)), fun _ e => e, fun _ e => e, fun _ e => .inl e⟩, ?_⟩
  · obtain ⟨u, h1, h2⟩ := R.dat i x e
    exact ⟨u, h1, Rep.up n.fs _ _ h2⟩
  · obtain ⟨a, h1, h2, h3, h4, h5⟩ := R.own i x e
    exact ⟨a, h1, h2.up n.fs fun o q => n.hs _ _ q, nf _ h2.some h2.notTup h3, h4, h5⟩
  · obtain ⟨a, h1, h2⟩ := R.iscr i ns e
    exact ⟨a, h1, n.fs.seq h2⟩
  · have z := R.oldd a e
    cases q : H a with
    | none => exact absurd q z
    | some o => rw [n.hs _ _ q]; exact nofun
  · rcases n.gr a e with q | q | q
    · exact R.fo a q
    · exact .inr (.inl (Classical.byContradiction fun z => R.oldd a z q))
    · exact R.foT q
  · cases q : H a with
    | none => exact absurd q e
    | some o => rw [n.hs _ _ q]; exact nofun
  · have q := n.rep
    cases r with
    | d x => exact q
    | fr x =>
      obtain ⟨a, h1, h2, h3, h4⟩ := q
      refine ⟨a, h1, h4, h3, Classical.byContradiction fun z => R.oldd a z h2, fun z => ?_, fun z => ?_⟩
      · obtain ⟨o, ho⟩ := R.src.srcH z
        rw [h2] at ho; cases ho
      · obtain ⟨_, _, _, o, ho⟩ := R.ownF z
        rw [h2] at ho; cases ho
theorem KE.res {C : DCx} {σ : L2.St} {F H : Hp} {l : Loc} {env : Env'} {g : G} {Q : VK} {r : RV} (R : Rel C σ F H l env g) (h : KE C σ F H l env Q r.ev env g) : ResK C.K F H Q r := fun v F' H' n =>
  let ⟨a, b, c⟩ := R.new n
  h v F' H' l a b c (by
    cases r with
    | d x => trivial
    | fr x =>
      obtain ⟨p, h1, h2, _⟩ := n.rep
      intro q e
      rw [h1] at e
      cases e
      exact h2)
/-! ### operations by values -/
def OpD (X : Cx) (f : Value → Value → Sem Value) (g : PyData → PyData → Option RV) : Prop :=
  ∃ r, OpR X f r ∧ ∀ (F H : Hp) (v w : V) (x y : PyData) (Q : VK) (ev : RV), Same F H → Bor X.K F H v x → Bor X.K F H w y → g x y = some ev → ResK X.K F H Q ev → r v w H Q
def CallD (X : Cx) (f : Value) (g : List PyData → Option RV) : Prop :=
  ∃ r, CallR X f r ∧ ∀ (F H : Hp) (vs : List V) (xs : List PyData) (Q : VK) (ev : RV), Same F H → Paired (Bor X.K F H) vs xs → g xs = some ev → ResK X.K F H Q ev → r vs H Q
def UnD (X : Cx) (f : Value → Sem Value) (g : PyData → Option RV) : Prop :=
  ∃ r, UnR X f r ∧ ∀ (F H : Hp) (v : V) (x : PyData) (Q : VK) (ev : RV), Same F H → Bor X.K F H v x → g x = some ev → ResK X.K F H Q ev → r v H Q
/-- the items of a list or tuple, for reading -/
theorem Bor.seq {K : PySem.W.Frag} {F H : Hp} {v : V} {ds : List PyData} (s : Same F H) (h : Bor K F H v (.list ds)) : ∃ a vs, v = V.ref a ∧ H a = some (.lst vs) ∧ RepL K F vs ds := by
  rcases h with h | ⟨a, e, o, nt⟩
  · obtain ⟨a, vs, e, q, r⟩ := rep_list.mp h
    exact ⟨a, vs, e, s _ _ q, r⟩
  · obtain ⟨vs, h1, r⟩ := o
    exact ⟨a, vs, e, h1, r⟩
theorem Bor.tup {K : PySem.W.Frag} {F H : Hp} {v : V} {ds : List PyData} (s : Same F H) (h : Bor K F H v (.tuple ds)) : ∃ a vs, v = V.ref a ∧ SqT K H a vs ∧ RepL K F vs ds := by
  rcases h with h | ⟨a, e, o, nt⟩
  · obtain ⟨a, vs, e, q, r⟩ := rep_tupS h
    exact ⟨a, vs, e, SqT.up s q, r⟩
  · exact o.elim
theorem Bor.int {K : PySem.W.Frag} {F H : Hp} {v : V} {i : Int} (h : Bor K F H v (.int i)) : v = .int i := by
  rcases h with h | ⟨a, e, o, nt⟩
  · exact rep_int.mp h
  · exact o.elim
theorem Bor.bool {K : PySem.W.Frag} {F H : Hp} {v : V} {i : Bool} (h : Bor K F H v (.bool i)) : v = .bl i := by
  rcases h with h | ⟨a, e, o, nt⟩
  · exact rep_bool.mp h
  · exact o.elim
theorem Bor.str {K : PySem.W.Frag} {F H : Hp} {v : V} {i : Str} (h : Bor K F H v (.str i)) : v = .str i := by
  rcases h with h | ⟨a, e, o, nt⟩
  · exact rep_str.mp h
  · exact o.elim
theorem Bor.none {K : PySem.W.Frag} {F H : Hp} {v : V} (h : Bor K F H v .none) : v = .non := by
  rcases h with h | ⟨a, e, o, nt⟩
  · exact rep_none.mp h
  · exact o.elim
end DL
namespace DL
open PySem L2
/-! ### data as the library reads it -/
section
variable {X : Cx} {pins : List (Addr × Obj)} {σ : L2.St} {H F : Hp} {s : Shared}
theorem readsAll_keys {h : Heap} : ∀ {kvs : List (Key × Value)} {es : List DictEntry} {ps : List (PyData × PyData)} {kv : List (Key × V)} {P : Program} {w : World} {K : PySem.W.Frag}, Pairs (mixKind P w) es kvs → KV kv kvs → RepD K F kv ps →
    ∃ as, ReadsAll h (es.map (·.key)) (ps.map (·.1)) as := by
  intro kvs es ps kv P w K hp
  induction hp generalizing kv ps with
  | nil =>
    intro hk hr
    cases hk
    cases ps with
    | nil => exact ⟨_, .nil⟩
    | cons p ps =>
      simp only [RepD] at hr
      obtain ⟨_, _, _, e, _⟩ := hr
      cases e
  | @cons e kv' es kvs h1 h2 t ih =>
    intro hk hr
    cases hk with
    | @cons p _ r _ hk1 hk2 =>
      cases ps with
      | nil =>
        simp only [RepD] at hr
        cases hr
      | cons q ps =>
        simp only [RepD] at hr
        obtain ⟨k, v, r', e', r1, r2, r3⟩ := hr
        cases e'
        obtain ⟨as, ha⟩ := ih hk2 r3
        have hq : kv'.1 = k := hk1.1.symm
        have hz : keyIs kv'.1 e.key = true := h1
        rw [hq] at hz
        rcases keyIs_shape hz with ⟨i, t', rfl, ek⟩ | ⟨x, t', rfl, ek⟩
        · have z : q.1 = .int i := by
            obtain ⟨q1, q2⟩ := q
            cases q1 <;> simp_all [kV, rep_list, rep_tup, rep_dict]
          rw [List.map_cons, List.map_cons, ek, z]
          exact ⟨_, .cons (.int i t') ha⟩
        · have z : q.1 = .str x := by
            obtain ⟨q1, q2⟩ := q
            cases q1 <;> simp_all [kV, rep_list, rep_tup, rep_dict]
          rw [List.map_cons, List.map_cons, ek, z]
          exact ⟨_, .cons (.str x t') ha⟩
theorem pairs_vals {P : Program} {w : World} : ∀ {kvs : List (Key × Value)} {es : List DictEntry}, Pairs (mixKind P w) es kvs → es.map (·.val) = kvs.map (·.2)
  | _, _, .nil => rfl
  | _, _, .cons _ h t => by rw [List.map_cons, List.map_cons, h, pairs_vals t]
mutual
theorem Rep.reads (I : Inv X pins σ H s) (hs : Same F H) : ∀ (d : PyData) (v : V) (u : Value), Rep X.K F v d → RelV v u → ∃ as, Reads s.heap u d as
  | .none, _, _, h, r => by
    cases rep_none.mp h
    cases r
    exact ⟨_, Reads.none⟩
  | .bool b, _, _, h, r => by
    cases rep_bool.mp h
    cases r
    exact ⟨_, Reads.bool b⟩
  | .int i, _, _, h, r => by
    cases rep_int.mp h
    obtain ⟨t, rfl⟩ := r
    exact ⟨_, Reads.int i t⟩
  | .str x, _, _, h, r => by
    cases rep_str.mp h
    obtain ⟨t, rfl⟩ := r
    exact ⟨_, Reads.str x t⟩
  | .list ds, _, _, h, r => by
    obtain ⟨a, vs, rfl, q, t⟩ := rep_list.mp h
    cases r
    obtain ⟨its, rv, ⟨o, n, ho, hc, _, hd⟩, _⟩ := I.list (SqL.of (hs _ _ q))
    obtain ⟨as, hr⟩ := RepL.reads I hs ds vs its t rv
    exact ⟨_, Reads.list ho hc hd hr⟩
  | .tuple ds, _, _, h, r => by
    obtain ⟨a, vs, rfl, q, t⟩ := rep_tupS h
    cases r
    obtain ⟨its, rv, ⟨o, ho, hc, n, hd⟩, _⟩ := I.tuple (SqT.up hs q)
    obtain ⟨as, hr⟩ := RepL.reads I hs ds vs its t rv
    exact ⟨_, Reads.tuple ho hc hd hr⟩
  | .dict kvs, _, _, h, r => by
    obtain ⟨a, kv, rfl, q, t⟩ := rep_dict.mp h
    cases r
    obtain ⟨_, _, vs, hk, o, es, ep, ho, hx, hd, _, hp, _⟩ := I.hok a _ (hs _ _ q)
    obtain ⟨as, h1⟩ := readsAll_keys (h := s.heap) hp hk t
    obtain ⟨bs, h2⟩ := RepD.reads I hs kvs kv vs t hk
    refine ⟨_, Reads.dict ho hx.1 hd h1 (bs := bs) ?_⟩
    rw [pairs_vals hp]
    exact h2
theorem RepL.reads (I : Inv X pins σ H s) (hs : Same F H) : ∀ (ds : List PyData) (vs : List V) (us : List Value), RepL X.K F vs ds → Vals vs us → ∃ as, ReadsAll s.heap us ds as
  | [], _, _, h, r => by
    cases repL_nil.mp h
    cases r
    exact ⟨_, .nil⟩
  | d :: ds, _, _, h, r => by
    obtain ⟨v, w, rfl, q, t⟩ := repL_cons.mp h
    cases r with
    | cons r1 r2 =>
      obtain ⟨as, h1⟩ := Rep.reads I hs d _ _ q r1
      obtain ⟨bs, h2⟩ := RepL.reads I hs ds _ _ t r2
      exact ⟨_, .cons h1 h2⟩
theorem RepD.reads (I : Inv X pins σ H s) (hs : Same F H) : ∀ (ps : List (PyData × PyData)) (kv : List (Key × V)) (us : List (Key × Value)), RepD X.K F kv ps → KV kv us → ∃ as, ReadsAll s.heap (us.map (·.2)) (ps.map (·.2)) as
  | [], kv, _, h, r => by
    simp only [RepD] at h
    subst h
    cases r
    exact ⟨_, .nil⟩
  | p :: ps, kv, _, h, r => by
    simp only [RepD] at h
    obtain ⟨k, v, w, rfl, q1, q2, t⟩ := h
    cases r with
    | cons r1 r2 =>
      obtain ⟨as, h1⟩ := Rep.reads I hs p.2 _ _ q2 r1.2
      obtain ⟨bs, h2⟩ := RepD.reads I hs ps _ _ t r2
      rw [List.map_cons, List.map_cons]
      exact ⟨_, .cons h1 h2⟩
end
theorem Bor.reads (I : Inv X pins σ H s) (hs : Same F H) {d : PyData} {v : V} {u : Value} (h : Bor X.K F H v d) (r : RelV v u) : ∃ as, Reads s.heap u d as := by
  rcases h with h | ⟨a, rfl, o, nt⟩
  · exact Rep.reads I hs d v u h r
  · cases r
    cases d with
    | list ds =>
      obtain ⟨vs, q, t⟩ := o
      obtain ⟨its, rv, ⟨o, n, ho, hc, _, hd⟩, _⟩ := I.list (SqL.of q)
      obtain ⟨as, hr⟩ := RepL.reads I hs ds vs its t rv
      exact ⟨_, Reads.list ho hc hd hr⟩
    | dict kvs =>
      obtain ⟨kv, q, t⟩ := o.dK nt
      obtain ⟨_, _, vs, hk, o, es, ep, ho, hx, hd, _, hp, _⟩ := I.hok a _ q
      obtain ⟨as, h1⟩ := readsAll_keys (h := s.heap) hp hk t
      obtain ⟨bs, h2⟩ := RepD.reads I hs kvs kv vs t hk
      refine ⟨_, Reads.dict ho hx.1 hd h1 (bs := bs) ?_⟩
      rw [pairs_vals hp]
      exact h2
    | _ => exact o.elim
end
/-! ### ==, !=, in of data -/
/-- lists of other lengths: the items are not looked at -/
def otherLen : PyData → PyData → Bool
  | .list xs, .list ys => xs.length != ys.length
  | _, _ => false
/-- texts, whatever their signs -/
def texts2 : PyData → PyData → Bool
  | .str _, .str _ => true
  | _, _ => false
def eqOk (x y : PyData) : Bool := (SeqAt.shaped x && SeqAt.shaped y) || otherLen x y || texts2 x y
def pyEq (x y : PyData) : Option RV := if eqOk x y then some (.d (.bool (PyData.eqv x y))) else none
def pyNe (x y : PyData) : Option RV := if eqOk x y then some (.d (.bool (!PyData.eqv x y))) else none
theorem if_some {c : Bool} {α : Type} {a b : α} (h : (if c = true then some a else none) = some b) : c = true ∧ a = b := by
  cases c with
  | true => exact ⟨rfl, Option.some.inj (by simpa using h)⟩
  | false => simp at h
def rEqB (K : PySem.W.Frag) (f : Bool → Bool) : R2 := fun x y H Q => ∃ F d e, Same F H ∧ Bor K F H x d ∧ Bor K F H y e ∧ eqOk d e = true ∧ Q (.bl (f (PyData.eqv d e))) H
section
variable {X : Cx}
theorem lists_of {pins : List (Addr × Obj)} {σ : L2.St} {F H : Hp} {s : Shared} {x y : V} {v u : Value} {d e : PyData} (I : Inv X pins σ H s) (hs : Same F H) (hd : Bor X.K F H x d) (he : Bor X.K F H y e) (rx : RelV x v) (ry : RelV y u) (h : otherLen d e = true) :
    ∃ (a b : Addr) (it jt : Array Value), v = .ref a ∧ u = .ref b ∧ s.heap.IsList a it ∧ s.heap.IsList b jt ∧ (it.size != jt.size) = true ∧ PyData.eqv d e = false := by
  cases d <;> cases e <;> first | (cases h; done) | skip
  rename_i xs ys
  have hne : xs.length ≠ ys.length := by simpa [otherLen] using h
  obtain ⟨a, vs, rfl, q, r⟩ := hd.seq hs
  obtain ⟨b, ws, rfl, q2, r2⟩ := he.seq hs
  cases rx
  cases ry
  obtain ⟨its, rv, p, _⟩ := I.list (SqL.of q)
  obtain ⟨jts, rw', p2, _⟩ := I.list (SqL.of q2)
  refine ⟨a, b, _, _, rfl, rfl, p.isList, p2.isList, ?_, SeqAt.eqvAll_other_length hne⟩
  have h1 := rv.length
  have h2 := rw'.length
  have h3 := r.length
  have h4 := r2.length
  simp only [List.size_toArray, bne_iff_ne, ne_eq]
  omega
theorem opd_eq (hu : X.A.units + 64 < cLine) : OpD X (compareOp .Eq) pyEq := by
  refine ⟨rEqB X.K id, ?_, ?_⟩
  · intro pins s σ H x y v u Q I rx ry h
    obtain ⟨F, d, e, hs, hd, he, ok, q⟩ := h
    unfold eqOk at ok
    rw [Bool.or_eq_true, Bool.or_eq_true, Bool.and_eq_true] at ok
    rcases ok with (⟨sd, se⟩ | ok) | ok
    · obtain ⟨as, r1⟩ := hd.reads I hs rx
      obtain ⟨bs, r2⟩ := he.reads I hs ry
      exact SeqAt.compareEq_shaped r1 r2 sd se hu ⟨.bl _, H, I, rfl, q⟩
    · obtain ⟨a, b, it, jt, rfl, rfl, p1, p2, hne, ev⟩ := lists_of I hs hd he rx ry ok
      rw [ev] at q
      exact SeqAt.RcAt.lists_lengths p1 p2 hne (by omega) X.prog X.w X.xe _ ⟨.bl _, H, I, rfl, q⟩
    · cases d <;> cases e <;> first | (cases ok; done) | skip
      rw [hd.str] at rx
      rw [he.str] at ry
      obtain ⟨t, rfl⟩ := rx
      obtain ⟨t', rfl⟩ := ry
      exact SeqAt.RcAt.str_str _ t _ t' X.prog X.w X.xe _ ⟨.bl _, H, I, rfl, q⟩
  · intro F H v w x y Q ev hs hx hy hg hq
    obtain ⟨h1, rfl⟩ := if_some hg
    exact ⟨F, x, y, hs, hx, hy, h1, hq.val hs (rep_bool.mpr rfl)⟩
theorem opd_ne (hu : X.A.units + 64 < cLine) : OpD X (compareOp .NotEq) pyNe := by
  refine ⟨rEqB X.K not, ?_, ?_⟩
  · intro pins s σ H x y v u Q I rx ry h
    obtain ⟨F, d, e, hs, hd, he, ok, q⟩ := h
    unfold eqOk at ok
    rw [Bool.or_eq_true, Bool.or_eq_true, Bool.and_eq_true] at ok
    rcases ok with (⟨sd, se⟩ | ok) | ok
    · obtain ⟨as, r1⟩ := hd.reads I hs rx
      obtain ⟨bs, r2⟩ := he.reads I hs ry
      exact SeqAt.compareNe_shaped r1 r2 sd se hu ⟨.bl _, H, I, rfl, q⟩
    · obtain ⟨a, b, it, jt, rfl, rfl, p1, p2, hne, ev⟩ := lists_of I hs hd he rx ry ok
      rw [ev] at q
      exact SeqAt.RcNeAt.lists_lengths p1 p2 hne (by omega) X.prog X.w X.xe _ ⟨.bl _, H, I, rfl, q⟩
    · cases d <;> cases e <;> first | (cases ok; done) | skip
      rw [hd.str] at rx
      rw [he.str] at ry
      obtain ⟨t, rfl⟩ := rx
      obtain ⟨t', rfl⟩ := ry
      exact SeqAt.RcNeAt.str_str _ t _ t' X.prog X.w X.xe _ ⟨.bl _, H, I, rfl, q⟩
  · intro F H v w x y Q ev hs hx hy hg hq
    obtain ⟨h1, rfl⟩ := if_some hg
    exact ⟨F, x, y, hs, hx, hy, h1, hq.val hs (rep_bool.mpr rfl)⟩
end
def rG (K : PySem.W.Frag) (g : PyData → PyData → Option RV) : R2 := fun x y H Q => ∃ F d e ev, Same F H ∧ Bor K F H x d ∧ Bor K F H y e ∧ g d e = some ev ∧ ResK K F H Q ev
theorem opd_of {X : Cx} {f : Value → Value → Sem Value} {g : PyData → PyData → Option RV} (h : OpR X f (rG X.K g)) : OpD X f g :=
  ⟨_, h, fun F _ _ _ x y _ ev hs hx hy hg hq => ⟨F, x, y, ev, hs, hx, hy, hg, hq⟩⟩
def rGu (K : PySem.W.Frag) (g : PyData → Option RV) : V → Hp → VK → Prop := fun x H Q => ∃ F d ev, Same F H ∧ Bor K F H x d ∧ g d = some ev ∧ ResK K F H Q ev
theorem und_of {X : Cx} {f : Value → Sem Value} {g : PyData → Option RV} (h : UnR X f (rGu X.K g)) : UnD X f g :=
  ⟨_, h, fun F _ _ x _ ev hs hx hg hq => ⟨F, x, ev, hs, hx, hg, hq⟩⟩
def rGc (K : PySem.W.Frag) (g : List PyData → Option RV) : List V → Hp → VK → Prop := fun xs H Q => ∃ F ds ev, Same F H ∧ Paired (Bor K F H) xs ds ∧ g ds = some ev ∧ ResK K F H Q ev
theorem calld_of {X : Cx} {f : Value} {g : List PyData → Option RV} (h : CallR X f (rGc X.K g)) : CallD X f g :=
  ⟨_, h, fun F _ _ xs _ ev hs hx hg hq => ⟨F, xs, ev, hs, hx, hg, hq⟩⟩
theorem roomIn {A : Around} {ds : List PyData} {d : PyData} (h : SeqAt.shaped d = true) (hu : A.units + 65 < cLine) : A.units + 1 + min (PyData.depthAll ds) d.depth < cLine := by
  have h1 := SeqAt.depth_of_shaped h
  have h2 : min (PyData.depthAll ds) d.depth ≤ d.depth := Nat.min_le_right _ _
  omega
/-- in, not in -/
def pyIn (neg : Bool) (x y : PyData) : Option RV := match y with
  | .list ds => if SeqAt.shaped x && SeqAt.shaped (.list ds) then some (.d (.bool (neg != ds.any fun z => PyData.eqv z x))) else none
  | .tuple ds => if SeqAt.shaped x && SeqAt.shaped (.tuple ds) then some (.d (.bool (neg != ds.any fun z => PyData.eqv z x))) else none
  | .str t => match x with
    | .str u => some (.d (.bool (neg != !(Builtin.Str.occurrences t u 0 t.length 1).isEmpty)))
    | _ => none
  | _ => none
section
variable {X : Cx}
theorem opd_in (hu : X.A.units + 65 < cLine) : OpD X (compareOp .In) (pyIn false) := by
  refine opd_of ?_
  intro pins s σ H x y v u Q I rx ry h
  obtain ⟨F, d, e, ev, hs, hd, he, hg, hq⟩ := h
  cases e with
  | list ds =>
    obtain ⟨as, r1⟩ := hd.reads I hs rx
    obtain ⟨bs, r2⟩ := he.reads I hs ry
    obtain ⟨h1, rfl⟩ := if_some hg
    rw [Bool.and_eq_true] at h1
    exact SeqAt.in_list_reads r2 r1 (SeqAt.canLay_of_shaped h1.2) (SeqAt.canLay_of_shaped h1.1) (roomIn h1.1 hu) ⟨.bl _, H, I, rfl, by simpa using hq.val hs (rep_bool.mpr rfl)⟩
  | tuple ds =>
    obtain ⟨as, r1⟩ := hd.reads I hs rx
    obtain ⟨bs, r2⟩ := he.reads I hs ry
    obtain ⟨h1, rfl⟩ := if_some hg
    rw [Bool.and_eq_true] at h1
    exact SeqAt.in_tuple_reads r2 r1 (SeqAt.canLay_of_shaped h1.2) (SeqAt.canLay_of_shaped h1.1) (roomIn h1.1 hu) ⟨.bl _, H, I, rfl, by simpa using hq.val hs (rep_bool.mpr rfl)⟩
  | str t =>
    cases d with
    | str z =>
      cases hg
      exact op_in_str pins s σ H x y v u Q I rx ry ⟨_, _, hd.str, he.str, by simpa using hq.val hs (rep_bool.mpr rfl)⟩
    | _ => cases hg
  | _ => cases hg
theorem opd_notin (hu : X.A.units + 65 < cLine) : OpD X (compareOp .NotIn) (pyIn true) := by
  refine opd_of ?_
  intro pins s σ H x y v u Q I rx ry h
  obtain ⟨F, d, e, ev, hs, hd, he, hg, hq⟩ := h
  cases e with
  | list ds =>
    obtain ⟨as, r1⟩ := hd.reads I hs rx
    obtain ⟨bs, r2⟩ := he.reads I hs ry
    obtain ⟨h1, rfl⟩ := if_some hg
    rw [Bool.and_eq_true] at h1
    exact SeqAt.notIn_list_reads r2 r1 (SeqAt.canLay_of_shaped h1.2) (SeqAt.canLay_of_shaped h1.1) (roomIn h1.1 hu) ⟨.bl _, H, I, rfl, by simpa using hq.val hs (rep_bool.mpr rfl)⟩
  | tuple ds =>
    obtain ⟨as, r1⟩ := hd.reads I hs rx
    obtain ⟨bs, r2⟩ := he.reads I hs ry
    obtain ⟨h1, rfl⟩ := if_some hg
    rw [Bool.and_eq_true] at h1
    exact SeqAt.notIn_tuple_reads r2 r1 (SeqAt.canLay_of_shaped h1.2) (SeqAt.canLay_of_shaped h1.1) (roomIn h1.1 hu) ⟨.bl _, H, I, rfl, by simpa using hq.val hs (rep_bool.mpr rfl)⟩
  | str t =>
    cases d with
    | str z =>
      cases hg
      exact op_notIn_str pins s σ H x y v u Q I rx ry ⟨_, _, hd.str, he.str, by simpa using hq.val hs (rep_bool.mpr rfl)⟩
    | _ => cases hg
  | _ => cases hg
/-- is, is not: with None, or of bools -/
def pyIs (neg : Bool) (x y : PyData) : Option RV := match y with
  | .none => match x with
    | .none => some (.d (.bool (!neg)))
    | _ => some (.d (.bool neg))
  | .bool b => match x with
    | .bool a => some (.d (.bool (neg != decide (a = b))))
    | _ => none
  | _ => none
def isNone : PyData → Bool
  | .none => true
  | _ => false
theorem Bor.isnone {K : PySem.W.Frag} {F H : Hp} {v : V} {x : PyData} (h : Bor K F H v x) : decide (v = .non) = isNone x := by
  cases x with
  | none => have e := h.none; subst e; rfl
  | bool b => have e := h.bool; subst e; rfl
  | int b => have e := h.int; subst e; rfl
  | str b => have e := h.str; subst e; rfl
  | list b =>
    rcases h with h | ⟨a, rfl, _⟩
    · obtain ⟨_, _, rfl, _⟩ := rep_list.mp h; rfl
    · rfl
  | tuple b =>
    rcases h with h | ⟨a, rfl, _⟩
    · obtain ⟨_, _, rfl, _⟩ := rep_tupS h; rfl
    · rfl
  | dict b =>
    rcases h with h | ⟨a, rfl, _⟩
    · obtain ⟨_, _, rfl, _⟩ := rep_dict.mp h; rfl
    · rfl
theorem opd_is : OpD X (compareOp .Is) (pyIs false) := by
  refine opd_of ?_
  intro pins s σ H x y v u Q I rx ry h
  obtain ⟨F, d, e, ev, hs, hd, he, hg, hq⟩ := h
  cases e with
  | none =>
    refine op_isN pins s σ H x y v u Q I rx ry ⟨he.none, ?_⟩
    rw [hd.isnone]
    cases d <;> (cases hg; exact hq.val hs (rep_bool.mpr rfl))
  | bool b =>
    cases d with
    | bool a =>
      cases hg
      exact op_isBl pins s σ H x y v u Q I rx ry ⟨a, b, hd.bool, he.bool, by simpa using hq.val hs (rep_bool.mpr rfl)⟩
    | _ => cases hg
  | _ => cases hg
theorem opd_isnot : OpD X (compareOp .IsNot) (pyIs true) := by
  refine opd_of ?_
  intro pins s σ H x y v u Q I rx ry h
  obtain ⟨F, d, e, ev, hs, hd, he, hg, hq⟩ := h
  cases e with
  | none =>
    refine op_notN pins s σ H x y v u Q I rx ry ⟨he.none, ?_⟩
    rw [hd.isnone]
    cases d <;> (cases hg; exact hq.val hs (rep_bool.mpr rfl))
  | bool b =>
    cases d with
    | bool a =>
      cases hg
      exact op_notBl pins s σ H x y v u Q I rx ry ⟨a, b, hd.bool, he.bool, by simpa using hq.val hs (rep_bool.mpr rfl)⟩
    | _ => cases hg
  | _ => cases hg
/-- <, <=, >, >= of ints -/
def pyCmpI (p : Int → Int → Bool) (x y : PyData) : Option RV := match x, y with
  | .int i, .int j => some (.d (.bool (p i j)))
  | _, _ => none
theorem opd_cmpI {f : Value → Value → Sem Value} {p : Int → Int → Bool} (h : OpR X f (rI0 fun i j => .bl (p i j))) : OpD X f (pyCmpI p) := by
  refine opd_of ?_
  intro pins s σ H x y v u Q I rx ry hh
  obtain ⟨F, d, e, ev, hs, hd, he, hg, hq⟩ := hh
  cases d <;> cases e <;> first | (cases hg; done) | skip
  rename_i i j
  cases hg
  exact h pins s σ H x y v u Q I rx ry ⟨i, j, hd.int, he.int, hq.val hs (rep_bool.mpr rfl)⟩
theorem opd_lt : OpD X (compareOp .Lt) (pyCmpI fun i j => decide (i < j)) := opd_cmpI op_lt
theorem opd_le : OpD X (compareOp .LtE) (pyCmpI fun i j => decide (i ≤ j)) := opd_cmpI op_le
theorem opd_gt : OpD X (compareOp .Gt) (pyCmpI fun i j => decide (j < i)) := opd_cmpI op_gt
theorem opd_ge : OpD X (compareOp .GtE) (pyCmpI fun i j => decide (j ≤ i)) := opd_cmpI op_ge
/-- + -/
def pyAdd (x y : PyData) : Option RV := match x, y with
  | .int i, .int j => some (.d (.int (i + j)))
  | .list a, .list b => if decide (a.length + b.length ≤ sizeLine) then some (.fr (.list (a ++ b))) else none
  | .tuple a, .tuple b => if decide (a.length + b.length ≤ sizeLine) then some (.d (.tuple (a ++ b))) else none
  | .str a, .str b => if decide (a.length + b.length ≤ sizeLine) then some (.d (.str (a ++ b))) else none
  | _, _ => none
theorem opd_add : OpD X (binaryOp .Add) pyAdd := by
  refine opd_of ?_
  intro pins s σ H x y v u Q I rx ry h
  obtain ⟨F, d, e, ev, hs, hd, he, hg, hq⟩ := h
  cases d <;> cases e <;> first | (cases hg; done) | skip
  · cases hg
    exact op_add pins s σ H x y v u Q I rx ry ⟨_, _, hd.int, he.int, hq.val hs (rep_int.mpr rfl)⟩
  · obtain ⟨h1, rfl⟩ := if_some hg
    exact op_add_str pins s σ H x y v u Q I rx ry ⟨_, _, hd.str, he.str, of_decide_eq_true h1, hq.val hs (rep_str.mpr rfl)⟩
  · obtain ⟨h1, rfl⟩ := if_some hg
    obtain ⟨a, vs, e1, q1, r1⟩ := hd.seq hs
    obtain ⟨b, ws, e2, q2, r2⟩ := he.seq hs
    have h2 := of_decide_eq_true h1
    exact op_cat pins s σ H x y v u Q I rx ry ⟨a, b, vs, ws, e1, e2, q1, q2, by rw [r1.length, r2.length]; exact h2, fun p hp => hq.lst hs hp (r1.append r2)⟩
  · obtain ⟨h1, rfl⟩ := if_some hg
    obtain ⟨a, vs, e1, q1, r1⟩ := hd.tup hs
    obtain ⟨b, ws, e2, q2, r2⟩ := he.tup hs
    have h2 := of_decide_eq_true h1
    refine op_catA pins s σ H x y v u Q I rx ry ⟨a, b, vs, ws, e1, e2, q1, q2, by rw [r1.length, r2.length]; exact h2, fun hz => ?_, fun hz hz2 => ?_, fun _ _ p hp => hq.tup hs hp (r1.append r2)⟩
    · subst hz
      rename_i ds es
      have hn : ds = [] := by
        cases ds with
        | nil => rfl
        | cons _ _ => have := r1.length; simp at this
      subst hn
      refine hq.val hs ?_
      rcases he with he | ⟨_, _, o, _⟩
      · rw [e2] at he; exact he
      · exact o.elim
    · subst hz2
      rename_i ds es
      have hn : es = [] := by
        cases es with
        | nil => rfl
        | cons _ _ => have := r2.length; simp at this
      subst hn
      rw [List.append_nil] at hq
      refine hq.val hs ?_
      rcases hd with hd | ⟨_, _, o, _⟩
      · rw [e1] at hd; exact hd
      · exact o.elim
def pySub (x y : PyData) : Option RV := match x, y with
  | .int i, .int j => some (.d (.int (i - j)))
  | _, _ => none
theorem opd_sub : OpD X (binaryOp .Sub) pySub := by
  refine opd_of ?_
  intro pins s σ H x y v u Q I rx ry h
  obtain ⟨F, d, e, ev, hs, hd, he, hg, hq⟩ := h
  cases d <;> cases e <;> first | (cases hg; done) | skip
  cases hg
  exact op_sub pins s σ H x y v u Q I rx ry ⟨_, _, hd.int, he.int, hq.val hs (rep_int.mpr rfl)⟩
/-- one factor below 2 ^ 64, or both together below a million bits -/
def mulOk (i j : Int) : Bool := decide (i.natAbs < 2 ^ 64) || decide (j.natAbs < 2 ^ 64) || decide (i.natAbs.log2 + j.natAbs.log2 < 1000000)
def pyMul (x y : PyData) : Option RV := match x, y with
  | .int i, .int j => if mulOk i j then some (.d (.int (i * j))) else none
  | .list ds, .int k => if decide (k.natAbs < 2 ^ 62) && decide (ds.length * k.toNat ≤ sizeLine) then some (.fr (.list (List.replicate k.toNat ds).flatten)) else none
  | _, _ => none
theorem RepL.rep {K : PySem.W.Frag} {F : Hp} {ds : List PyData} {vs : List V} (h : RepL K F vs ds) : ∀ n : Nat, RepL K F (List.replicate n vs).flatten (List.replicate n ds).flatten
  | 0 => repL_nil.mpr rfl
  | n + 1 => by
    rw [List.replicate_succ, List.replicate_succ, List.flatten_cons, List.flatten_cons]
    exact RepL.append h (RepL.rep h n)
theorem opd_mul : OpD X (binaryOp .Mult) pyMul := by
  refine opd_of ?_
  intro pins s σ H x y v u Q I rx ry h
  obtain ⟨F, d, e, ev, hs, hd, he, hg, hq⟩ := h
  cases d <;> cases e <;> first | (cases hg; done) | skip
  rotate_left
  · rename_i ds k
    obtain ⟨h1, rfl⟩ := if_some hg
    rw [Bool.and_eq_true, decide_eq_true_eq, decide_eq_true_eq] at h1
    obtain ⟨a, vs, rfl, q, r⟩ := hd.seq hs
    refine op_rep pins s σ H _ _ v u Q I rx ry ⟨a, k, vs, rfl, he.int, q, by omega, by omega, by rw [r.length]; exact h1.2, fun p hp => ?_⟩
    exact ResK.lst hs hq hp (RepL.rep r _)
  rename_i i j
  obtain ⟨h1, rfl⟩ := if_some hg
  have q := hq.val hs (rep_int.mpr rfl)
  unfold mulOk at h1
  rw [Bool.or_eq_true, Bool.or_eq_true] at h1
  rcases h1 with (h1 | h1) | h1
  · have h2 := of_decide_eq_true h1
    exact op_mul pins s σ H x y v u Q I rx ry ⟨_, _, hd.int, he.int, .inl (by omega), q⟩
  · have h2 := of_decide_eq_true h1
    exact op_mul pins s σ H x y v u Q I rx ry ⟨_, _, hd.int, he.int, .inr (by omega), q⟩
  · exact op_mulW pins s σ H x y v u Q I rx ry ⟨_, _, hd.int, he.int, (have z : i.natAbs.log2 + j.natAbs.log2 < 1000000 := of_decide_eq_true h1; z), q⟩
def pyFloorDiv (x y : PyData) : Option RV := match x, y with
  | .int i, .int j => if decide (0 < j) && decide (j.natAbs.log2 < 9000) then some (.d (.int (i / j))) else none
  | _, _ => none
theorem opd_fdiv : OpD X (binaryOp .FloorDiv) pyFloorDiv := by
  refine opd_of ?_
  intro pins s σ H x y v u Q I rx ry h
  obtain ⟨F, d, e, ev, hs, hd, he, hg, hq⟩ := h
  cases d <;> cases e <;> first | (cases hg; done) | skip
  obtain ⟨h1, rfl⟩ := if_some hg
  rw [Bool.and_eq_true] at h1
  exact op_fdivW pins s σ H x y v u Q I rx ry ⟨_, _, hd.int, he.int, ⟨of_decide_eq_true h1.1, of_decide_eq_true h1.2⟩, hq.val hs (rep_int.mpr rfl)⟩
def pyMod (x y : PyData) : Option RV := match x, y with
  | .int i, .int j => if decide (0 < j) then some (.d (.int (i % j))) else none
  | _, _ => none
theorem opd_mod : OpD X (binaryOp .Mod) pyMod := by
  refine opd_of ?_
  intro pins s σ H x y v u Q I rx ry h
  obtain ⟨F, d, e, ev, hs, hd, he, hg, hq⟩ := h
  cases d <;> cases e <;> first | (cases hg; done) | skip
  obtain ⟨h1, rfl⟩ := if_some hg
  exact op_mod pins s σ H x y v u Q I rx ry ⟨_, _, hd.int, he.int, of_decide_eq_true h1, hq.val hs (rep_int.mpr rfl)⟩
def pyPow (x y : PyData) : Option RV := match x, y with
  | .int i, .int j => if decide (0 ≤ j) && decide (j ≤ 1000000) && decide (i.natAbs < 2 ^ 64) then some (.d (.int (i ^ j.toNat))) else none
  | _, _ => none
theorem opd_pow : OpD X (binaryOp .Pow) pyPow := by
  refine opd_of ?_
  intro pins s σ H x y v u Q I rx ry h
  obtain ⟨F, d, e, ev, hs, hd, he, hg, hq⟩ := h
  cases d <;> cases e <;> first | (cases hg; done) | skip
  obtain ⟨h1, rfl⟩ := if_some hg
  rw [Bool.and_eq_true, Bool.and_eq_true] at h1
  exact op_pow pins s σ H x y v u Q I rx ry ⟨_, _, hd.int, he.int, ⟨of_decide_eq_true h1.1.1, of_decide_eq_true h1.1.2, of_decide_eq_true h1.2⟩, hq.val hs (rep_int.mpr rfl)⟩
def pyNeg (x : PyData) : Option RV := match x with
  | .int i => some (.d (.int (-i)))
  | _ => none
theorem und_neg : UnD X (unaryOp .USub) pyNeg := by
  refine und_of ?_
  intro pins s σ H x v Q I rx h
  obtain ⟨F, d, ev, hs, hd, hg, hq⟩ := h
  cases d <;> first | (cases hg; done) | skip
  cases hg
  exact un_neg pins s σ H x v Q I rx ⟨_, hd.int, hq.val hs (rep_int.mpr rfl)⟩
end
end DL
namespace DL
open PySem L2
theorem get_set_self {α : Type} {l : List α} {i : Nat} {x y : α} (h : l[i]? = some y) : (l.set i x)[i]? = some x := by
  obtain ⟨h1, _⟩ := List.getElem?_eq_some_iff.mp h
  simp [h1]
theorem get_set_ne {α : Type} {l : List α} {i j : Nat} {x : α} (h : i ≠ j) : (l.set i x)[j]? = l[j]? := by
  simp [h]
theorem get_set_cases {α : Type} {l : List α} {i j : Nat} {x y : α} (h : (l.set i x)[j]? = some y) : (i = j ∧ x = y) ∨ (i ≠ j ∧ l[j]? = some y) := by
  by_cases e : i = j
  · subst e
    have hl : i < l.length := by
      obtain ⟨h1, _⟩ := List.getElem?_eq_some_iff.mp h
      simpa using h1
    rw [List.getElem?_set_self hl] at h
    exact .inl ⟨rfl, Option.some.inj h⟩
  · rw [get_set_ne e] at h
    exact .inr ⟨e, h⟩
section
variable {C : DCx} {σ : L2.St} {F H : Hp} {l : Loc} {env : Env'} {g : G}
theorem SrcRep.grow {a : Addr} {o : HO} (r : SrcRep F H l g) (hs : ¬ SrcAt l a) : SrcRep (upd F a o) H l g := by
  cases l with
  | none => cases g with
    | none => trivial
    | some s => exact r.elim
  | some p => cases g with
    | none => exact r.elim
    | some s =>
      obtain ⟨h1, h2, h3, h4, h5⟩ := r
      have n1 : p.1 ≠ a := fun e => hs ⟨p, rfl, .inl e.symm⟩
      have n2 : p.2 ≠ a := fun e => hs ⟨p, rfl, .inr e.symm⟩
      exact ⟨h1, h2, h3, by rw [upd_ne n1]; exact h4, by rw [upd_ne n2]; exact h5⟩
/-- a fresh object becomes data -/
theorem Rel.frz (R : Rel C σ F H l env g) {a : Addr} {x : PyData} (o : OwnRep C.K F H a x) (hf : F a = none) (h0 : C.H0 a = none) (hs : ¬ SrcAt l a) (ho : ¬ OwnAt σ env a) (nt : isT x = false) :
    ∃ u, H a = some u ∧ Rel C σ (upd F a u) H l env g ∧ Rep C.K (upd F a u) (V.ref a) x := by
  obtain ⟨u, hu, rp⟩ := o.freeze hf nt
  have up : Same F (upd F a u) := Same.upd hf
  refine ⟨u, hu, ⟨fun b w e => ?_, R.len, fun i y e => ?_, fun i y e => ?_, R.inj, fun i ns e => ?_, R.isrc, R.src.grow hs, R.old, R.oldd, R.f0.trans up, fun b e => ?_, R.lo, R.l0⟩, rp⟩
  · by_cases hb : b = a
    · subst hb; rw [upd_same] at e; cases e; exact hu
    · rw [upd_ne hb] at e; exact R.sub _ _ e
  · obtain ⟨v, h1, h2⟩ := R.dat i y e
    exact ⟨v, h1, Rep.up up _ _ h2⟩
  · obtain ⟨b, h1, h2, h3, h4, h5⟩ := R.own i y e
    have hb : b ≠ a := fun z => ho ⟨i, y, e, by rw [← z]; exact h1⟩
    exact ⟨b, h1, h2.up up fun _ q => q, by rw [upd_ne hb]; exact h3, h4, h5⟩
  · obtain ⟨b, h1, h2⟩ := R.iscr i ns e
    exact ⟨b, h1, up.seq h2⟩
  · by_cases hb : b = a
    · subst hb; exact .inr (.inl h0)
    · rw [upd_ne hb] at e; exact R.fo b e
/-- a slot's own object becomes data -/
theorem Rel.leak (R : Rel C σ F H l env g) {i : Nat} {x : PyData} (e : env[i]? = some (Slot.own x)) (nt : isT x = false) :
    ∃ (a : Addr) (u : HO), σ[i]? = some (some (V.ref a)) ∧ H a = some u ∧ F a = none ∧ OwnAt σ env a ∧ Rel C σ (upd F a u) H l (env.set i (Slot.d x)) g ∧ Rep C.K (upd F a u) (V.ref a) x := by
  obtain ⟨a, h1, h2, h3, h4, h5⟩ := R.own i x e
  obtain ⟨u, hu, rp⟩ := h2.freeze h3 nt
  have up : Same F (upd F a u) := Same.upd h3
  refine ⟨a, u, h1, hu, h3, ⟨i, x, e, h1⟩, ⟨fun b w q => ?_, by rw [List.length_set]; exact R.len, fun j y q => ?_, fun j y q => ?_, fun j k y z b q1 q2 => ?_, fun j ns q => ?_, fun j bb q => ?_, R.src.grow h5, R.old, R.oldd, R.f0.trans up, fun b q => ?_, R.lo, R.l0⟩, rp⟩
  · by_cases hb : b = a
    · subst hb; rw [upd_same] at q; cases q; exact hu
    · rw [upd_ne hb] at q; exact R.sub _ _ q
  · rcases get_set_cases q with ⟨z, w⟩ | ⟨z, q⟩
    · subst z; cases w; exact ⟨_, h1, rp⟩
    · obtain ⟨v, g1, g2⟩ := R.dat j y q
      exact ⟨v, g1, Rep.up up _ _ g2⟩
  · rcases get_set_cases q with ⟨z, w⟩ | ⟨z, q⟩
    · cases w
    · obtain ⟨b, g1, g2, g3, g4, g5⟩ := R.own j y q
      have hb : b ≠ a := fun w => z (R.inj i j x y a e q h1 (by rw [← w]; exact g1))
      exact ⟨b, g1, g2.up up fun _ q => q, by rw [upd_ne hb]; exact g3, g4, g5⟩
  · rcases get_set_cases q1 with ⟨z, w⟩ | ⟨z, q1⟩
    · cases w
    · rcases get_set_cases q2 with ⟨z, w⟩ | ⟨z, q2⟩
      · cases w
      · exact R.inj j k y _ b q1 q2
  · rcases get_set_cases q with ⟨z, w⟩ | ⟨z, q⟩
    · cases w
    · obtain ⟨b, g1, g2⟩ := R.iscr j ns q
      exact ⟨b, g1, up.seq g2⟩
  · rcases get_set_cases q with ⟨z, w⟩ | ⟨z, q⟩
    · cases w
    · exact R.isrc j _ q
  · by_cases hb : b = a
    · subst hb; exact .inr (.inl h4)
    · rw [upd_ne hb] at q; exact R.fo b q
theorem Ext.leak {i : Nat} {x : PyData} {a : Addr} {u : HO} (hf : F a = none) (ho : OwnAt σ env a) : Ext σ F H l env (upd F a u) H l (env.set i (Slot.d x)) :=
  ⟨Same.upd hf, fun _ e => e, fun _ _ e _ _ => e, fun b e => by
    by_cases hb : b = a
    · subst hb; exact .inr (.inr (.inl ho))
    · rw [upd_ne hb] at e; exact .inl e, fun b ⟨j, y, e, h⟩ => by
    rcases get_set_cases e with ⟨z, w⟩ | ⟨z, q⟩
    · cases w
    · exact ⟨j, y, q, h⟩, fun _ e => e, fun _ e => .inl e⟩
theorem Ext.frz {F1 H1 : Hp} {l1 : Loc} {env1 : Env'} {a : Addr} {u : HO} (x : Ext σ F H l env F1 H1 l1 env1) (hf : F1 a = none) (hn : H a = none) : Ext σ F H l env (upd F1 a u) H1 l1 env1 :=
  ⟨x.fs.trans (Same.upd hf), x.hd, x.hk, fun b e => by
    by_cases hb : b = a
    · subst hb; exact .inr (.inl hn)
    · rw [upd_ne hb] at e; exact x.gr b e, x.ow, x.ls, x.ln⟩
end
/-! ### expressions: constants, names -/
def mK (x : PyData) : M EV := M.pure (.d x)
/-- a name, handed on: what it owned is data from now on -/
def mVar (i : Nat) : M EV := fun env g => match env[i]? with
  | some (.d x) => .ok (.d x) env g
  | some (.own x) => if isT x = true then .bad else .ok (.d x) (env.set i (.d x)) g
  | some (.src b) => .ok (.src b) env g
  | some (.scr ns) => .ok (.scr ns) env g
  | _ => .bad
/-- a name, for reading -/
def mVarB (i : Nat) : M EV := fun env g => match env[i]? with
  | some (.d x) => .ok (.d x) env g
  | some (.own _) => .ok (.bo i) env g
  | some (.src b) => .ok (.src b) env g
  | some (.scr ns) => .ok (.scr ns) env g
  | _ => .bad
def mFrz : EV → M PyData
  | .d x => M.pure x
  | .fr x => if isT x = true then M.bad else M.pure x
  | _ => M.bad
section
variable {X : Cx} {C : DCx} {e : Expr} {es : List Expr} {pos : Pos}
theorem de_const {x : PyData} {v : V} (h : PE X e (tC v)) (r : ∀ F, Rep C.K F v x) : DE X C e (mK x) :=
  ⟨fun _ => ⟨_, h, fun σ F H l env g Q R w => w v F H l R .refl (r F) trivial⟩⟩
theorem de_int {i : Int} {j : Nat} {p : Pos} : DE X C (.Constant (.int i) j p) (mK (.int i)) := de_const pe_int fun _ => rep_int.mpr rfl
theorem de_bool {i : Bool} {j : Nat} {p : Pos} : DE X C (.Constant (.bool i) j p) (mK (.bool i)) := de_const pe_bl fun _ => rep_bool.mpr rfl
theorem de_none {j : Nat} {p : Pos} : DE X C (.Constant .none j p) (mK .none) := de_const pe_non fun _ => rep_none.mpr rfl
theorem de_str {i : Str} {j : Nat} {p : Pos} : DE X C (.Constant (.str i) j p) (mK (.str i)) := de_const pe_str fun _ => rep_str.mpr rfl
/-- a module's own constant -/
theorem de_glob {x : Str} {u : Value} {d : PyData} {v : V} {p : Pos} (hg : Gl X x) (hm : X.mg x = some u) (rv : RelV v u) (r : ∀ F, Rep C.K F v d) (hd : (x == ("__debug__" : Str)) = false := by decide) : DE X C (.Name x p) (mK d) :=
  de_const (pe_glob hg hm rv hd) r
theorem de_var {i : Nat} (h : PE X e (tVar i)) : DE X C e (mVar i) := by
  refine ⟨fun _ => ⟨_, h, fun σ F H l env g Q R w => ?_⟩⟩
  unfold mVar at w
  split at w
  · rename_i x q
    obtain ⟨v, h1, h2⟩ := R.dat i x q
    exact ⟨v, h1, w v F H l R .refl h2 trivial⟩
  · rename_i x q
    split at w
    · exact w.elim
    rename_i nt
    obtain ⟨a, u, h1, h2, h3, h4, h5, h6⟩ := R.leak q (by simpa using nt)
    exact ⟨_, h1, w _ _ H l h5 (Ext.leak h3 h4) h6 trivial⟩
  · rename_i q
    obtain ⟨d, c, h1, h2⟩ := R.isrc i _ q
    exact ⟨_, h2, w _ F H l R .refl ⟨d, c, h1, rfl⟩ trivial⟩
  · rename_i ns q
    obtain ⟨a, h1, h2⟩ := R.iscr i ns q
    exact ⟨_, h1, w _ F H l R .refl ⟨a, rfl, h2⟩ trivial⟩
  · exact w.elim
theorem de_varB {i : Nat} (h : PE X e (tVar i)) : DE X C e (mVarB i) := by
  refine ⟨fun _ => ⟨_, h, fun σ F H l env g Q R w => ?_⟩⟩
  unfold mVarB at w
  split at w
  · rename_i x q
    obtain ⟨v, h1, h2⟩ := R.dat i x q
    exact ⟨v, h1, w v F H l R .refl h2 trivial⟩
  · rename_i x q
    obtain ⟨a, h1, _⟩ := R.own i x q
    exact ⟨_, h1, w _ F H l R .refl h1 trivial⟩
  · rename_i q
    obtain ⟨d, c, h1, h2⟩ := R.isrc i _ q
    exact ⟨_, h2, w _ F H l R .refl ⟨d, c, h1, rfl⟩ trivial⟩
  · rename_i ns q
    obtain ⟨a, h1, h2⟩ := R.iscr i ns q
    exact ⟨_, h1, w _ F H l R .refl ⟨a, rfl, h2⟩ trivial⟩
  · exact w.elim
/-- frozen -/
theorem dd_of {m : M EV} (h : DE X C e m) : DD X C e (m.bind mFrz) := by
  refine ⟨fun hK => ?_⟩
  obtain ⟨t, ht, s⟩ := h.run hK
  refine ⟨t, ht, fun σ F H l env g Q R w => s σ F H l env g Q R (Wp.mono (Wp.bind.mp w) (fun ev env' g' w v F' H' l' R' x r f => ?_) fun _ _ _ _ w => w)⟩
  cases ev with
  | d y => exact w v F' H' l' R' x r
  | fr y =>
    replace w : Wp ((if isT y = true then M.bad else M.pure _) env' g') _ _ := w
    split at w
    · exact w.elim
    rename_i nt
    obtain ⟨a, rfl, h2, h3, h4, h5, h6⟩ := r
    obtain ⟨u, hu, R2, rp⟩ := R'.frz h2 h3 h4 h5 h6 (by simpa using nt)
    exact w _ _ H' l' R2 (x.frz h3 (f a rfl)) rp
  | _ => exact w.elim
/-! ### two operands -/
def mBin (gop : PyData → PyData → Option RV) (ma mb : M EV) : M EV := ma.bind fun a => mb.bind fun b => fun env g =>
  match look env a, look env b with
  | some x, some y => M.opt ((gop x y).map RV.ev) env g
  | _, _ => .bad
def mUn (gop : PyData → Option RV) (ma : M EV) : M EV := ma.bind fun a => fun env g =>
  match look env a with
  | some x => M.opt ((gop x).map RV.ev) env g
  | _ => .bad
theorem simBin {r : R2} {gop : PyData → PyData → Option RV} {ta tb : TE} {ma mb : M EV} (ha : SimE C ta ma) (hb : SimE C tb mb)
    (hr : ∀ (F H : Hp) (v w : V) (x y : PyData) (Q : VK) (ev : RV), Same F H → Bor C.K F H v x → Bor C.K F H w y → gop x y = some ev → ResK C.K F H Q ev → r v w H Q) : SimE C (tOp r ta tb) (mBin gop ma mb) := by
  intro σ F H l env g Q R w
  refine ha σ F H l env g _ R (Wp.mono (Wp.bind.mp w) (fun a env1 g1 w v F1 H1 l1 R1 x1 r1 f1 => ?_) fun _ _ _ _ w => w)
  refine hb σ F1 H1 l1 env1 g1 _ R1 (Wp.mono (Wp.bind.mp w) (fun b env2 g2 w u F2 H2 l2 R2 x2 r2 f2 => ?_) fun _ _ _ _ w => w)
  have x02 := x1.trans (C := C) x2
  have r1' := r1.up x2
  split at w
  · rename_i x y e1 e2
    cases hg : gop x y with
    | none => rw [hg] at w; exact w.elim
    | some ev =>
      rw [hg] at w
      exact hr F2 H2 v u x y Q ev R2.sub (r1'.look R2 e1) (r2.look R2 e2) hg (KE.res R2 (KE.up w x02))
  · exact w.elim
theorem de_bin {a b : Expr} {op : Operator} {gop : PyData → PyData → Option RV} {ma mb : M EV} (ho : OpD X (binaryOp op) gop) (ha : DE X C a ma) (hb : DE X C b mb) : DE X C (.BinOp a op b pos) (mBin gop ma mb) := by
  refine ⟨fun hK => ?_⟩
  obtain ⟨ta, h1, s1⟩ := ha.run hK
  obtain ⟨tb, h2, s2⟩ := hb.run hK
  obtain ⟨r, hr, hs⟩ := ho
  exact ⟨_, pe_op hr h1 h2, simBin s1 s2 (by rw [hK]; exact hs)⟩
theorem de_cmp {a b : Expr} {op : CmpOp} {gop : PyData → PyData → Option RV} {ma mb : M EV} (ho : OpD X (compareOp op) gop) (ha : DE X C a ma) (hb : DE X C b mb) (hm : behindInMarks op b = false) : DE X C (.Compare a [op] [b] pos) (mBin gop ma mb) := by
  refine ⟨fun hK => ?_⟩
  obtain ⟨ta, h1, s1⟩ := ha.run hK
  obtain ⟨tb, h2, s2⟩ := hb.run hK
  obtain ⟨r, hr, hs⟩ := ho
  exact ⟨_, pe_cmpR hr h1 h2 hm, simBin s1 s2 (by rw [hK]; exact hs)⟩
theorem de_un {a : Expr} {op : UnaryOp} {gop : PyData → Option RV} {ma : M EV} (ho : UnD X (unaryOp op) gop) (ha : DE X C a ma) : DE X C (.UnaryOp op a pos) (mUn gop ma) := by
  refine ⟨fun hK => ?_⟩
  obtain ⟨ta, h1, s1⟩ := ha.run hK
  obtain ⟨r, hr, hs⟩ := ho
  refine ⟨_, pe_un hr h1, fun σ F H l env g Q R w => ?_⟩
  refine s1 σ F H l env g _ R (Wp.mono (Wp.bind.mp w) (fun a env1 g1 w v F1 H1 l1 R1 x1 r1 f1 => ?_) fun _ _ _ _ w => w)
  split at w
  · rename_i x e1
    cases hg : gop x with
    | none => rw [hg] at w; exact w.elim
    | some ev =>
      rw [hg] at w
      exact hs F1 H1 v x Q ev R1.sub (by rw [← hK]; exact r1.look R1 e1) hg (by rw [← hK]; exact KE.res R1 (KE.up w x1))
  · exact w.elim
theorem RepEV.isb {C : DCx} {σ : L2.St} {F H : Hp} {l : Loc} {env : Env'} {v : V} {b : Bool} (h : RepEV C σ F H l env v (.d (.bool b))) : v = .bl b := by
  have h : Rep C.K F v (.bool b) := h
  exact rep_bool.mp h
theorem RepEV.ofb {C : DCx} {σ : L2.St} {F H : Hp} {l : Loc} {env : Env'} {b : Bool} : RepEV C σ F H l env (.bl b) (.d (.bool b)) := by
  show Rep C.K F (.bl b) (.bool b)
  exact rep_bool.mpr rfl
/-! ### tests -/
def mBool : EV → M Bool
  | .d (.bool b) => M.pure b
  | _ => M.bad
theorem simTest {t : TE} {m : M EV} (h : SimE C t m) : SimT C (tTest t) (m.bind mBool) := by
  intro σ F H l env g Q R w
  refine h σ F H l env g _ R (Wp.mono (Wp.bind.mp w) (fun a env1 g1 w v F1 H1 l1 R1 x1 r1 f1 => ?_) fun _ _ _ _ w => w)
  cases a with
  | d y =>
    cases y with
    | bool b => exact ⟨b, r1.isb, w F1 H1 l1 R1 x1⟩
    | _ => exact w.elim
  | _ => exact w.elim
theorem dt_cmp {a b : Expr} {op : CmpOp} {gop : PyData → PyData → Option RV} {ma mb : M EV} (ho : OpD X (compareOp op) gop) (ha : DE X C a ma) (hb : DE X C b mb) (hm : behindInMarks op b = false) : DT X C (.Compare a [op] [b] pos) ((mBin gop ma mb).bind mBool) := by
  refine ⟨fun hK => ?_⟩
  obtain ⟨ta, h1, s1⟩ := ha.run hK
  obtain ⟨tb, h2, s2⟩ := hb.run hK
  obtain ⟨r, hr, hs⟩ := ho
  exact ⟨_, pt_cmpR hr h1 h2 hm, simTest (simBin s1 s2 (by rw [hK]; exact hs))⟩
theorem dt_val {m : M EV} (h : DE X C e m) (he : ∀ whole, isTrue e X.env whole = (do let v ← whole; standAt e.pos; holding [v] (truthy v)) := by intro _; rfl) : DT X C e (m.bind mBool) := by
  refine ⟨fun hK => ?_⟩
  obtain ⟨t, h1, s1⟩ := h.run hK
  exact ⟨_, pt_val h1 he, simTest s1⟩
def mAndT (ma mb : M Bool) : M Bool := ma.bind fun a => if a then mb else M.pure false
def mOrT (ma mb : M Bool) : M Bool := ma.bind fun a => if a then M.pure true else mb
def mNotT (ma : M Bool) : M Bool := ma.bind fun a => M.pure (!a)
theorem dw_and1 {a : Expr} {ma : M Bool} (ha : DT X C a ma) : DW X C (.BoolOp .And [a] pos) ma := ⟨fun hK => let ⟨t, h, s⟩ := ha.run hK; ⟨t, pw_and1 h, s⟩⟩
theorem dw_or1 {a : Expr} {ma : M Bool} (ha : DT X C a ma) : DW X C (.BoolOp .Or [a] pos) ma := ⟨fun hK => let ⟨t, h, s⟩ := ha.run hK; ⟨t, pw_or1 h, s⟩⟩
theorem DW.dt {ma : M Bool} (h : DW X C e ma) : DT X C e ma := ⟨fun hK => let ⟨t, h, s⟩ := h.run hK; ⟨t, h.pt, s⟩⟩
theorem KT.up {σ : L2.St} {F H F1 H1 : Hp} {l l1 : Loc} {env env1 : Env'} {Q : Bool → Hp → Prop} {b : Bool} {env' : Env'} {g' : G} (h : KT C σ F H l env Q b env' g') (x : Ext σ F H l env F1 H1 l1 env1) : KT C σ F1 H1 l1 env1 Q b env' g' :=
  fun F' H' l' r y => h F' H' l' r (x.trans (C := C) y)
theorem dw_and {a b : Expr} {rest : List Expr} {ma mb : M Bool} (ha : DT X C a ma) (hb : DW X C (.BoolOp .And (b :: rest) pos) mb) : DW X C (.BoolOp .And (a :: b :: rest) pos) (mAndT ma mb) := by
  refine ⟨fun hK => ?_⟩
  obtain ⟨ta, h1, s1⟩ := ha.run hK
  obtain ⟨tb, h2, s2⟩ := hb.run hK
  refine ⟨_, pw_and h1 h2, fun σ F H l env g Q R w => ?_⟩
  refine s1 σ F H l env g _ R (Wp.mono (Wp.bind.mp w) (fun c env1 g1 w F1 H1 l1 R1 x1 => ?_) fun _ _ _ _ w => w)
  cases c with
  | true => exact s2 σ F1 H1 l1 env1 g1 Q R1 (Wp.mono w (fun _ _ _ w => KT.up w x1) fun _ _ _ _ w => w)
  | false => exact w F1 H1 l1 R1 x1
theorem dw_or {a b : Expr} {rest : List Expr} {ma mb : M Bool} (ha : DT X C a ma) (hb : DW X C (.BoolOp .Or (b :: rest) pos) mb) : DW X C (.BoolOp .Or (a :: b :: rest) pos) (mOrT ma mb) := by
  refine ⟨fun hK => ?_⟩
  obtain ⟨ta, h1, s1⟩ := ha.run hK
  obtain ⟨tb, h2, s2⟩ := hb.run hK
  refine ⟨_, pw_or h1 h2, fun σ F H l env g Q R w => ?_⟩
  refine s1 σ F H l env g _ R (Wp.mono (Wp.bind.mp w) (fun c env1 g1 w F1 H1 l1 R1 x1 => ?_) fun _ _ _ _ w => w)
  cases c with
  | true => exact w F1 H1 l1 R1 x1
  | false => exact s2 σ F1 H1 l1 env1 g1 Q R1 (Wp.mono w (fun _ _ _ w => KT.up w x1) fun _ _ _ _ w => w)
theorem dt_not {a : Expr} {ma : M Bool} (ha : DT X C a ma) : DT X C (.UnaryOp .Not a pos) (mNotT ma) := by
  refine ⟨fun hK => ?_⟩
  obtain ⟨ta, h1, s1⟩ := ha.run hK
  refine ⟨_, pt_not h1, fun σ F H l env g Q R w => ?_⟩
  exact s1 σ F H l env g _ R (Wp.mono (Wp.bind.mp w) (fun c env1 g1 w F1 H1 l1 R1 x1 => w F1 H1 l1 R1 x1) fun _ _ _ _ w => w)
/-! .. as values -/
def mAndV (ma mb : M EV) : M EV := ma.bind fun a => match a with
  | .d (.bool true) => mb
  | .d (.bool false) => M.pure (.d (.bool false))
  | _ => M.bad
def mOrV (ma mb : M EV) : M EV := ma.bind fun a => match a with
  | .d (.bool true) => M.pure (.d (.bool true))
  | .d (.bool false) => mb
  | _ => M.bad
def mNotV (ma : M EV) : M EV := ma.bind fun a => match a with
  | .d (.bool b) => M.pure (.d (.bool (!b)))
  | _ => M.bad
theorem de_one {op : BoolOp} {a : Expr} {ma : M EV} (h : DE X C a ma) : DE X C (.BoolOp op [a] pos) ma := ⟨fun hK => let ⟨t, h, s⟩ := h.run hK; ⟨t, pe_one h, s⟩⟩
theorem de_and {a b : Expr} {rest : List Expr} {ma mb : M EV} (ha : DE X C a ma) (hb : DE X C (.BoolOp .And (b :: rest) pos) mb) : DE X C (.BoolOp .And (a :: b :: rest) pos) (mAndV ma mb) := by
  refine ⟨fun hK => ?_⟩
  obtain ⟨ta, h1, s1⟩ := ha.run hK
  obtain ⟨tb, h2, s2⟩ := hb.run hK
  refine ⟨_, pe_and h1 h2, fun σ F H l env g Q R w => ?_⟩
  refine s1 σ F H l env g _ R (Wp.mono (Wp.bind.mp w) (fun c env1 g1 w v F1 H1 l1 R1 x1 r1 f1 => ?_) fun _ _ _ _ w => w)
  cases c with
  | d y =>
    cases y with
    | bool b =>
      cases b with
      | true => exact ⟨true, r1.isb, s2 σ F1 H1 l1 env1 g1 Q R1 (Wp.mono w (fun _ _ _ w => KE.up w x1) fun _ _ _ _ w => w)⟩
      | false => exact ⟨false, r1.isb, w _ F1 H1 l1 R1 x1 RepEV.ofb trivial⟩
    | _ => exact w.elim
  | _ => exact w.elim
theorem de_or {a b : Expr} {rest : List Expr} {ma mb : M EV} (ha : DE X C a ma) (hb : DE X C (.BoolOp .Or (b :: rest) pos) mb) : DE X C (.BoolOp .Or (a :: b :: rest) pos) (mOrV ma mb) := by
  refine ⟨fun hK => ?_⟩
  obtain ⟨ta, h1, s1⟩ := ha.run hK
  obtain ⟨tb, h2, s2⟩ := hb.run hK
  refine ⟨_, pe_or h1 h2, fun σ F H l env g Q R w => ?_⟩
  refine s1 σ F H l env g _ R (Wp.mono (Wp.bind.mp w) (fun c env1 g1 w v F1 H1 l1 R1 x1 r1 f1 => ?_) fun _ _ _ _ w => w)
  cases c with
  | d y =>
    cases y with
    | bool b =>
      cases b with
      | false => exact ⟨false, r1.isb, s2 σ F1 H1 l1 env1 g1 Q R1 (Wp.mono w (fun _ _ _ w => KE.up w x1) fun _ _ _ _ w => w)⟩
      | true => exact ⟨true, r1.isb, w _ F1 H1 l1 R1 x1 RepEV.ofb trivial⟩
    | _ => exact w.elim
  | _ => exact w.elim
theorem de_not {a : Expr} {ma : M EV} (ha : DE X C a ma) : DE X C (.UnaryOp .Not a pos) (mNotV ma) := by
  refine ⟨fun hK => ?_⟩
  obtain ⟨ta, h1, s1⟩ := ha.run hK
  refine ⟨_, pe_not h1, fun σ F H l env g Q R w => ?_⟩
  refine s1 σ F H l env g _ R (Wp.mono (Wp.bind.mp w) (fun c env1 g1 w v F1 H1 l1 R1 x1 r1 f1 => ?_) fun _ _ _ _ w => w)
  cases c with
  | d y =>
    cases y with
    | bool b => exact ⟨b, r1.isb, w _ F1 H1 l1 R1 x1 RepEV.ofb trivial⟩
    | _ => exact w.elim
  | _ => exact w.elim
def mIf (mt : M Bool) (ma mb : M EV) : M EV := mt.bind fun b => if b then ma else mb
theorem de_if {c a b : Expr} {mt : M Bool} {ma mb : M EV} (hc : DT X C c mt) (ha : DE X C a ma) (hb : DE X C b mb) : DE X C (.IfExp c a b pos) (mIf mt ma mb) := by
  refine ⟨fun hK => ?_⟩
  obtain ⟨tc, h0, s0⟩ := hc.run hK
  obtain ⟨ta, h1, s1⟩ := ha.run hK
  obtain ⟨tb, h2, s2⟩ := hb.run hK
  refine ⟨_, pe_ifExp h0 h1 h2, fun σ F H l env g Q R w => ?_⟩
  refine s0 σ F H l env g _ R (Wp.mono (Wp.bind.mp w) (fun c env1 g1 w F1 H1 l1 R1 x1 => ?_) fun _ _ _ _ w => w)
  cases c with
  | true => exact s1 σ F1 H1 l1 env1 g1 Q R1 (Wp.mono w (fun _ _ _ w => KE.up w x1) fun _ _ _ _ w => w)
  | false => exact s2 σ F1 H1 l1 env1 g1 Q R1 (Wp.mono w (fun _ _ _ w => KE.up w x1) fun _ _ _ _ w => w)
/-! ### argument lists -/
def mNil : M (List EV) := M.pure []
def mCons (ma : M EV) (mr : M (List EV)) : M (List EV) := ma.bind fun a => mr.bind fun r => M.pure (a :: r)
/-- handed on: frozen data, the source, the script -/
def mArg (ma : M EV) : M EV := ma.bind fun a => match a with
  | .d x => M.pure (.d x)
  | .fr x => if isT x = true then M.bad else M.pure (.d x)
  | .src b => M.pure (.src b)
  | .scr ns => M.pure (.scr ns)
  | .bo _ => M.bad
theorem simArg {t : TE} {m : M EV} (s : SimE C t m) : SimE C t (mArg m) := by
  refine fun σ F H l env g Q R w => s σ F H l env g Q R (Wp.mono (Wp.bind.mp w) (fun ev env' g' w v F' H' l' R' x r f => ?_) fun _ _ _ _ w => w)
  cases ev with
  | d y => exact w v F' H' l' R' x r trivial
  | fr y =>
    replace w : Wp ((if isT y = true then M.bad else M.pure _) env' g') _ _ := w
    split at w
    · exact w.elim
    rename_i nt
    obtain ⟨a, rfl, h2, h3, h4, h5, h6⟩ := r
    obtain ⟨u, hu, R2, rp⟩ := R'.frz h2 h3 h4 h5 h6 (by simpa using nt)
    exact w _ _ H' l' R2 (x.frz h3 (f a rfl)) rp trivial
  | src b => exact w v F' H' l' R' x r trivial
  | scr ns => exact w v F' H' l' R' x r trivial
  | bo _ => exact w.elim
theorem de_arg {m : M EV} (h : DE X C e m) : DE X C e (mArg m) := ⟨fun hK => let ⟨t, ht, s⟩ := h.run hK; ⟨t, ht, simArg s⟩⟩
theorem da_nil : DA X C [] mNil := ⟨fun _ => ⟨_, pa_nil, fun σ F H l env g Q R w => w [] F H l R .refl .nil⟩⟩
theorem da_cons {a : Expr} {ma : M EV} {mr : M (List EV)} (ha : DE X C a ma) (hr : DA X C es mr) (hs : starEach (a :: es) X.env = (false, eval a X.env) :: starEach es X.env := by rfl) : DA X C (a :: es) (mCons ma mr) := by
  refine ⟨fun hK => ?_⟩
  obtain ⟨ta, h1, s1⟩ := ha.run hK
  obtain ⟨tr, h2, s2⟩ := hr.run hK
  refine ⟨_, pa_cons h1 h2 hs, fun σ F H l env g Q R w => ?_⟩
  refine s1 σ F H l env g _ R (Wp.mono (Wp.bind.mp w) (fun a env1 g1 w v F1 H1 l1 R1 x1 r1 f1 => ?_) fun _ _ _ _ w => w)
  refine s2 σ F1 H1 l1 env1 g1 _ R1 (Wp.mono (Wp.bind.mp w) (fun as env2 g2 w vs F2 H2 l2 R2 x2 r2 => ?_) fun _ _ _ _ w => w)
  exact w (v :: vs) F2 H2 l2 R2 (x1.trans (C := C) x2) (.cons ⟨r1.up x2, f1⟩ (Paired.imp (fun _ _ q => ⟨q.1, q.2.dn x1.hd⟩) r2))
/-- all frozen: the data of a display -/
def dataOf : List EV → Option (List PyData)
  | [] => some []
  | .d x :: r => (dataOf r).map (x :: ·)
  | _ :: _ => none
theorem dataOf_rep {σ : L2.St} {F H H0 : Hp} {l : Loc} {env : Env'} : ∀ {evs : List EV} {vs : List V} {ds : List PyData}, Paired (fun v ev => RepEV C σ F H l env v ev ∧ FreshAt H0 v ev) vs evs → dataOf evs = some ds → RepL C.K F vs ds
  | [], _, _, .nil, h => by cases h; exact repL_nil.mpr rfl
  | ev :: evs, _, ds, .cons r t, h => by
    cases ev with
    | d x =>
      cases q : dataOf evs with
      | none => simp [dataOf, q] at h
      | some es =>
        simp [dataOf, q] at h
        subst h
        exact repL_cons.mpr ⟨_, _, rfl, r.1, dataOf_rep t q⟩
    | _ => simp [dataOf] at h
def szd (ds : List PyData) : Option (List PyData) := if ds.length ≤ sizeLine then some ds else none
theorem szd_inv {ds es : List PyData} (h : szd ds = some es) : ds.length ≤ sizeLine ∧ ds = es := by
  unfold szd at h
  by_cases c : ds.length ≤ sizeLine
  · rw [if_pos c] at h; exact ⟨c, Option.some.inj h⟩
  · rw [if_neg c] at h; cases h
def mSized (f : List PyData → RV) : Option (List PyData) → M EV
  | some ds => M.opt ((szd ds).map fun es => (f es).ev)
  | none => M.bad
theorem mSized_wp {f : List PyData → RV} {o : Option (List PyData)} {e : Env'} {g : G} {K : EV → Env' → G → Prop} {E : Str → PyData → Env' → G → Prop} (h : Wp (mSized f o e g) K E) : ∃ ds, o = some ds ∧ ds.length ≤ sizeLine ∧ K (f ds).ev e g := by
  cases o with
  | none => exact h.elim
  | some ds =>
    obtain ⟨ev, q, w⟩ := Wp.opt h
    obtain ⟨es, q1, rfl⟩ := Option.map_eq_some_iff.mp q
    obtain ⟨c, rfl⟩ := szd_inv q1
    exact ⟨ds, rfl, c, w⟩
def mDisp (f : List PyData → RV) (ma : M (List EV)) : M EV := ma.bind fun evs => mSized f (dataOf evs)
theorem de_tup {x1 : Nat} {m : M (List EV)} (h : DA X C es m) : DE X C (.Tuple es x1 pos) (mDisp (fun ds => .d (.tuple ds)) m) := by
  refine ⟨fun hK => ?_⟩
  obtain ⟨t, ht, s⟩ := h.run hK
  refine ⟨_, pe_tup ht, fun σ F H l env g Q R w => ?_⟩
  refine s σ F H l env g _ R (Wp.mono (Wp.bind.mp w) (fun evs env1 g1 w vs F1 H1 l1 R1 x1 r1 => ?_) fun _ _ _ _ w => w)
  obtain ⟨ds, hd, hz, w⟩ := mSized_wp w
  have rl := dataOf_rep r1 hd
  exact ⟨by rw [rl.length]; exact hz, fun p hp => (KE.res R1 (KE.up w x1)).tup R1.sub hp rl⟩
theorem de_lst {m : M (List EV)} (h : DA X C es m) : DE X C (.List es pos) (mDisp (fun ds => .fr (.list ds)) m) := by
  refine ⟨fun hK => ?_⟩
  obtain ⟨t, ht, s⟩ := h.run hK
  refine ⟨_, pe_lst ht, fun σ F H l env g Q R w => ?_⟩
  refine s σ F H l env g _ R (Wp.mono (Wp.bind.mp w) (fun evs env1 g1 w vs F1 H1 l1 R1 x1 r1 => ?_) fun _ _ _ _ w => w)
  obtain ⟨ds, hd, hz, w⟩ := mSized_wp w
  have rl := dataOf_rep r1 hd
  exact ⟨by rw [rl.length]; exact hz, fun p hp => (KE.res R1 (KE.up w x1)).lst R1.sub hp rl⟩
/-! ### built-ins by name -/
def lookAll (env : Env') : List EV → Option (List PyData)
  | [] => some []
  | ev :: r => match look env ev with
    | some x => (lookAll env r).map (x :: ·)
    | none => none
theorem lookAll_bor {σ : L2.St} {F H H0 : Hp} {l : Loc} {env : Env'} {g : G} (R : Rel C σ F H l env g) : ∀ {evs : List EV} {vs : List V} {ds : List PyData}, Paired (fun v ev => RepEV C σ F H l env v ev ∧ FreshAt H0 v ev) vs evs → lookAll env evs = some ds → Paired (Bor C.K F H) vs ds
  | [], _, _, .nil, h => by cases h; exact .nil
  | ev :: evs, _, ds, .cons r t, h => by
    unfold lookAll at h
    split at h
    · rename_i x e
      cases q : lookAll env evs with
      | none => simp [q] at h
      | some es =>
        simp [q] at h
        subst h
        exact .cons (r.1.look R e) (lookAll_bor R t q)
    · cases h
def mCallB (gop : List PyData → Option RV) (ma : M (List EV)) : M EV := ma.bind fun evs => fun env g =>
  match lookAll env evs with
  | some xs => M.opt ((gop xs).map RV.ev) env g
  | none => .bad
theorem simCallB {r : List V → Hp → VK → Prop} {gop : List PyData → Option RV} {t : TA} {m : M (List EV)} (s : SimA C t m)
    (hr : ∀ (F H : Hp) (vs : List V) (xs : List PyData) (Q : VK) (ev : RV), Same F H → Paired (Bor C.K F H) vs xs → gop xs = some ev → ResK C.K F H Q ev → r vs H Q) : SimE C (tCB r t) (mCallB gop m) := by
  intro σ F H l env g Q R w
  refine s σ F H l env g _ R (Wp.mono (Wp.bind.mp w) (fun evs env1 g1 w vs F1 H1 l1 R1 x1 r1 => ?_) fun _ _ _ _ w => w)
  split at w
  · rename_i xs e
    cases hg : gop xs with
    | none => rw [hg] at w; exact w.elim
    | some ev =>
      rw [hg] at w
      exact hr F1 H1 vs xs Q ev R1.sub (lookAll_bor R1 r1 e) hg (KE.res R1 (KE.up w x1))
  · exact w.elim
theorem de_callB {x : Str} {id : String} {p : Pos} {a : Expr} {gop : List PyData → Option RV} {m : M (List EV)} (hc : CallD X (.builtin id) gop) (hg : Gl X x) (hm : X.mg x = none) (hv : bootBuiltins x = some (.builtin id)) (ha : DA X C (a :: es) m)
    (hn : x ≠ "__name__" := by decide) (hdb : (x == ("__debug__" : Str)) = false := by decide) (he : starEach (a :: es) X.env = (false, eval a X.env) :: starEach es X.env := by rfl) (hpl : (backTo pos (starEach es X.env)).any (·.1) = false := by rfl) :
    DE X C (.Call (.Name x p) (a :: es) [] pos) (mCallB gop m) := by
  refine ⟨fun hK => ?_⟩
  obtain ⟨t, ht, s⟩ := ha.run hK
  obtain ⟨r, hr, hs⟩ := hc
  exact ⟨_, pe_callB hr hg hm hv ht hn hdb he hpl, simCallB s (by rw [hK]; exact hs)⟩
theorem de_callTy {x : Str} {T : String} {p : Pos} {a : Expr} {gop : List PyData → Option RV} {m : M (List EV)} (hc : CallD X (.type T) gop) (hg : Gl X x) (hm : X.mg x = none) (hv : bootBuiltins x = some (.type T)) (ha : DA X C (a :: es) m)
    (hn : x ≠ "__name__" := by decide) (hdb : (x == ("__debug__" : Str)) = false := by decide) (he : starEach (a :: es) X.env = (false, eval a X.env) :: starEach es X.env := by rfl) (hpl : (backTo pos (starEach es X.env)).any (·.1) = false := by rfl) :
    DE X C (.Call (.Name x p) (a :: es) [] pos) (mCallB gop m) := by
  refine ⟨fun hK => ?_⟩
  obtain ⟨t, ht, s⟩ := ha.run hK
  obtain ⟨r, hr, hs⟩ := hc
  exact ⟨_, pe_callTy hr hg hm hv ht hn hdb he hpl, simCallB s (by rw [hK]; exact hs)⟩
end
end DL
namespace DL
open PySem L2
/-! ### enumerate of anything that begins -/
section
theorem enumNew1 {v : Value} {o : Obj} {P : Heap → Prop} (B : Begins v o P) :
    Meets (Builtin.«enumerate.__new__» ⟨[.type "enumerate", v], []⟩) (fun _ R s => P s.heap ∧
      R (.ok (.ret (.ref (s.heap.push o).objs.size))) { s with heap := (s.heap.push o).push { cls := .type "enumerate", data := .fields #[.none, .bool false, .ref s.heap.objs.size, rawInt 0, .none, .none] } }) := by
  refine .of_wp ?_
  intro prog w A R s h
  obtain ⟨hp, g, d, tk, os⟩ := s
  obtain ⟨h1, h⟩ := h
  have isE := sub_enumerate
  have it1 : ∀ {A' : Around} {E' : Value → Shared → Prop} {Q' : Value → Shared → Prop}, Q' (.ref hp.objs.size) ⟨hp.push o, g, d, tk, os⟩ → wpAny (model prog w) A' (pyIter v) Q' E' ⟨hp, g, d, tk, os⟩ := by
    intro A' E' Q' q
    exact B.iter prog w _ _ ⟨hp, g, d, tk, os⟩ _ h1 q
  wp_walk using it1
  refine wpAny_stack_any ?_
  intro st
  refine wpAny_pure ?_
  split
  · rename_i c _ _ _ _ _
    cases (c == Value.type "enumerate") <;> (wp_walk using it1; exact ⟨_, rfl, h⟩)
  · wp_walk using it1
    exact ⟨_, rfl, h⟩
theorem enumCall1 {prog : Program} {w : World} {A : Around} {E : Value → Shared → Prop} {s : Shared} {v : Value} {o : Obj} {P : Heap → Prop} {Q : Value → Shared → Prop} (B : Begins v o P) (h1 : P s.heap)
    (h : ∀ h', IsEnum h' (s.heap.objs.size + 1) s.heap.objs.size 0 .none → h'.get? s.heap.objs.size = some o → (∀ b u, s.heap.get? b = some u → h'.get? b = some u) → Q (.ref (s.heap.objs.size + 1)) { s with heap := h' }) :
    wpAny (model prog w) A (call (.type "enumerate") [v]) Q E s := by
  refine callType_new F.called_enumerate (by decide) (F.typeCall_enumerate_1 _) (F.newCall_enumerate_1 _) (fun obj => F.args_object_init_2 obj _) F.entry_enumerate_new (enumNew1 B) ⟨h1, ?_⟩
  have sz : (s.heap.push o).objs.size = s.heap.objs.size + 1 := by rw [Heap.size_push]
  show _ ∧ _
  rw [sz]
  have he : IsEnum ((s.heap.push o).push { cls := .type "enumerate", data := .fields #[.none, .bool false, .ref s.heap.objs.size, rawInt 0, .none, .none] }) (s.heap.objs.size + 1) s.heap.objs.size 0 .none := by
    have z := Heap.get?_push_size (s.heap.push o) (o := { cls := .type "enumerate", data := .fields #[.none, .bool false, .ref s.heap.objs.size, rawInt 0, .none, .none] }) rfl
    rw [sz] at z
    exact z
  exact ⟨⟨_, he, rfl⟩, h _ he (Heap.get?_push_of_some _ (Heap.get?_push_size _ B.free)) fun b u x => Heap.get?_push_of_some _ (Heap.get?_push_of_some _ x)⟩
/-- the tuple at a, each item in a new pair with its number -/
def IteT (K : PySem.W.Frag) (a : Addr) : It where
  go := fun i H => ∃ (xs : List V) (x : V), SqT K H a xs ∧ xs[i]? = some x
  yld := fun i H v H' => ∃ T x, v = .ref T ∧ H T = none ∧ H' = upd H T (.tup [.int (i : Nat), x]) ∧ ∀ xs, SqT K H a xs → xs[i]? = some x
  stop := fun i H => ∃ xs : List V, SqT K H a xs ∧ i = xs.length
theorem turnEnumT {P : Program} {w : World} {K : PySem.W.Frag} {elts : List Expr} {kk : Nat} {tpos : Pos} (a e it : Addr) :
    Turn P w K (.Tuple elts kk tpos) (IteT K a) [e, it] e (fun i h => (∃ old, IsEnum h e it (0 + ((i : Nat) : Int)) old) ∧ h.IsTupleIter it a i ∧ e ≠ it) where
  mem := by simp
  obj := fun i h st b hb => by
    obtain ⟨⟨old, he⟩, ⟨o, ho, hc, hd⟩, _⟩ := st
    rcases (show b = e ∨ b = it by simpa using hb) with z | z
    · exact z ▸ ⟨_, he, fun v q => nomatch q⟩
    · exact z ▸ ⟨o, ho, fun v q => by rw [hd] at q; cases q⟩
  keep := fun i h h' st k => by
    obtain ⟨⟨old, he⟩, hi, hne⟩ := st
    exact ⟨⟨old, k e (by simp) _ he⟩, hi.at fun o q => k it (by simp) o q, hne⟩
  item := by
    intro X hP hw hK hc i pins s σ H E I hf st hg
    subst hP hw hK
    obtain ⟨⟨old, he⟩, hit, hne⟩ := st
    obtain ⟨xs, x, hq, hx⟩ := hg
    obtain ⟨its, rv, p, hz⟩ := I.tuple hq
    obtain ⟨u, hu, ru⟩ := rv.get hx
    have hel : e < s.heap.objs.size := Heap.lt_size he
    have hil : it < s.heap.objs.size := by obtain ⟨_, q, _⟩ := hit; exact Heap.lt_size q
    have pa : s.heap.get? a ≠ none := by obtain ⟨o, q, _⟩ := p; rw [q]; nofun
    have hat : a ≠ it := fun z => by
      obtain ⟨o, q, c, _⟩ := p
      obtain ⟨o', q', c', _⟩ := hit
      rw [z, q'] at q
      cases q
      rw [c'] at c
      exact absurd c (by decide)
    have hae : a ≠ e := fun z => by
      obtain ⟨o, q, c, _⟩ := p
      have h0 := he
      unfold IsEnum at h0
      rw [z, h0] at q
      cases q
      exact absurd (show Value.type "enumerate" = Value.type "tuple" from c) (by decide)
    have D := Draws.tuple (prog := X.prog) (w := X.w) (A := X.A.in1) (I.ok.hd hc) it a hat its.toArray
    have W := GoesN.enumFrom (elts := elts) (x1 := kk) (pos := tpos) 0 D e hne (by simp [hne, hae.symm]) (by simp)
    have hi : i < its.toArray.size := by
      obtain ⟨h1, _⟩ := List.getElem?_eq_some_iff.mp hu
      simpa using h1
    refine thn (W.goes i s (fun v s2 => ∃ y H', Inv X pins σ H' s2 ∧ RelV y v ∧ (IteT X.K a).yld i H y H' ∧ ((∃ old, IsEnum s2.heap e it (0 + ((i + 1 : Nat) : Int)) old) ∧ s2.heap.IsTupleIter it a (i + 1) ∧ e ≠ it) ∧ ∀ b ∈ [e, it], H' b = none) E hi ⟨⟨old, he⟩, hit, p⟩ ?_) fun r s1 ⟨v, hr, q⟩ => ⟨v, hr, q⟩
    intro v h' tk hY st' hk ht
    obtain ⟨T, t, y, rfl, hT, hy, hTT⟩ := hY
    obtain ⟨st1, st2, st3⟩ := st'
    have ey : y = u := by
      have z : its.toArray[i]? = some y := hy
      rw [List.getElem?_toArray, hu] at z
      exact (Option.some.inj z).symm
    subst ey
    have new : ObjOk X.prog X.w (upd H T (.tup [.int (i : Nat), x])) h' T (.tup [.int (i : Nat), x]) :=
      ⟨by show 2 ≤ sizeLine; decide, [.int (0 + (i : Int)) t, y], .cons ⟨t, by rw [Int.zero_add]⟩ (.cons ru .nil), hTT⟩
    refine ⟨.ref T, _, I.turnedNew (ch := [e, it]) (fun b ob hb q => hk b ob (by simpa using hb) q) hf hT new, rfl, ⟨T, x, rfl, I.hok.fresh hT, rfl, fun ys hy => by rw [I.tuple_inj hy hq]; exact hx⟩, ⟨st1, st2, hne⟩, fun b hb => ?_⟩
    have hb' : b < s.heap.objs.size := by
      rcases (show b = e ∨ b = it by simpa using hb) with z | z <;> (rw [z]; assumption)
    rw [upd_ne (Nat.ne_of_lt (Nat.lt_of_lt_of_le hb' hT))]
    exact (hf b hb).1
  done := by
    intro X hP hw hK hc i pins s σ H E I hf st hg
    subst hP hw hK
    obtain ⟨⟨old, he⟩, hit, hne⟩ := st
    obtain ⟨xs, hq, hx⟩ := hg
    obtain ⟨its, rv, p, hz⟩ := I.tuple hq
    have hat : a ≠ it := fun z => by
      obtain ⟨o, q, c, _⟩ := p
      obtain ⟨o', q', c', _⟩ := hit
      rw [z, q'] at q
      cases q
      rw [c'] at c
      exact absurd c (by decide)
    have hae : a ≠ e := fun z => by
      obtain ⟨o, q, c, _⟩ := p
      have h0 := he
      unfold IsEnum at h0
      rw [z, h0] at q
      cases q
      exact absurd (show Value.type "enumerate" = Value.type "tuple" from c) (by decide)
    have D := Draws.tuple (prog := X.prog) (w := X.w) (A := X.A.in1) (I.ok.hd hc) it a hat its.toArray
    have W := GoesN.enumFrom (elts := elts) (x1 := kk) (pos := tpos) 0 D e hne (by simp [hne, hae.symm]) (by simp)
    have hi : i = its.toArray.size := by
      rw [hx, rv.length]
      simp
    subst hi
    refine W.stops s (fun s1 => Inv X pins σ H s1) E ⟨⟨old, he⟩, hit, p⟩ ?_
    intro h' tk hk ht
    exact I.turnedL (ch := [e, it]) (fun b o hb q => hk b o (by simpa using hb) q) hf
  self := fun A i s Q E st h => by
    obtain ⟨⟨_, he⟩, _⟩ := st
    exact wpAny_pyIter_enum he h
end
end DL
namespace DL
open PySem L2
/-! ### targets -/
inductive Pat where
  | nm (i : Nat)
  | tp (ps : List Pat)
mutual
def asg : Pat → PyData → Env' → Option Env'
  | .nm i, d, e => if i < e.length then some (e.set i (.d d)) else none
  | .tp ps, d, e => match d with
    | .tuple ds => asgL ps ds e
    | _ => none
def asgL : List Pat → List PyData → Env' → Option Env'
  | [], [], e => some e
  | p :: ps, d :: ds, e => match asg p d e with
    | some e => asgL ps ds e
    | none => none
  | _, _, _ => none
end
theorem asgL_length : ∀ {ps : List Pat} {ds : List PyData} {e e' : Env'}, asgL ps ds e = some e' → ds.length = ps.length
  | [], [], _, _, _ => rfl
  | [], _ :: _, _, _, h => by simp [asgL] at h
  | _ :: _, [], _, _, h => by simp [asgL] at h
  | p :: ps, d :: ds, e, e', h => by
    cases z : asg p d e with
    | none => simp [asgL, z] at h
    | some e1 =>
      simp [asgL, z] at h
      simp [asgL_length h]
mutual
def Pat.idx : Pat → List Nat
  | .nm i => [i]
  | .tp ps => idxL ps
def idxL : List Pat → List Nat
  | [] => []
  | p :: ps => p.idx ++ idxL ps
end
/-- the slots but those at is are as they were -/
def Off (is : List Nat) (σ σ' : L2.St) : Prop := σ'.length = σ.length ∧ ∀ j, j ∉ is → σ'[j]? = σ[j]?
theorem Off.trans {is js : List Nat} {σ σ1 σ2 : L2.St} (a : Off is σ σ1) (b : Off js σ1 σ2) : Off (is ++ js) σ σ2 :=
  ⟨b.1.trans a.1, fun j h => by
    rw [List.mem_append, not_or] at h
    rw [b.2 j h.2, a.2 j h.1]⟩
theorem Rel.setd {C : DCx} {σ : L2.St} {F H : Hp} {l : Loc} {env : Env'} {g : G} {v : V} {d : PyData} (R : Rel C σ F H l env g) (i : Nat) (r : Rep C.K F v d) : Rel C (σ.set i (some v)) F H l (env.set i (.d d)) g where
  sub := R.sub
  len := by rw [List.length_set, List.length_set]; exact R.len
  dat := fun j x e => by
    rcases get_set_cases e with ⟨z, w⟩ | ⟨z, q⟩
    · subst z
      cases w
      have hl : i < σ.length := by
        rw [R.len]
        obtain ⟨h1, _⟩ := List.getElem?_eq_some_iff.mp e
        simpa using h1
      exact ⟨v, List.getElem?_set_self hl, r⟩
    · rw [get_set_ne z]; exact R.dat j x q
  own := fun j x e => by
    rcases get_set_cases e with ⟨z, w⟩ | ⟨z, q⟩
    · cases w
    · rw [get_set_ne z]; exact R.own j x q
  inj := fun j k x y a e1 e2 h1 h2 => by
    rcases get_set_cases e1 with ⟨z, w⟩ | ⟨z, q⟩
    · cases w
    · rcases get_set_cases e2 with ⟨z2, w⟩ | ⟨z2, q2⟩
      · cases w
      · rw [get_set_ne z] at h1
        rw [get_set_ne z2] at h2
        exact R.inj j k x y a q q2 h1 h2
  iscr := fun j ns e => by
    rcases get_set_cases e with ⟨z, w⟩ | ⟨z, q⟩
    · cases w
    · rw [get_set_ne z]; exact R.iscr j ns q
  isrc := fun j b e => by
    rcases get_set_cases e with ⟨z, w⟩ | ⟨z, q⟩
    · cases w
    · rw [get_set_ne z]; exact R.isrc j b q
  src := R.src
  old := R.old
  oldd := R.oldd
  f0 := R.f0
  fo := R.fo
  lo := R.lo
  l0 := R.l0
theorem OwnAt.setd {σ : L2.St} {env : Env'} {i : Nat} {d : PyData} {v : V} {a : Addr} (h : OwnAt (σ.set i (some v)) (env.set i (.d d)) a) : OwnAt σ env a := by
  obtain ⟨j, x, e, q⟩ := h
  rcases get_set_cases e with ⟨z, w⟩ | ⟨z, e⟩
  · cases w
  · rw [get_set_ne z] at q
    exact ⟨j, x, e, q⟩
def SimG (C : DCx) (g : TG) (p : Pat) : Prop := ∀ (σ : L2.St) (F H : Hp) (l : Loc) (env env' : Env') (gs : G) (v : V) (d : PyData) (Q : L2.St → Hp → Prop), Rel C σ F H l env gs → Rep C.K F v d → asg p d env = some env' →
  (∀ σ', Rel C σ' F H l env' gs → Off p.idx σ σ' → (∀ a, OwnAt σ' env' a → OwnAt σ env a) → Q σ' H) → g v σ H Q
def SimGs (C : DCx) (g : TGs) (ps : List Pat) : Prop := ∀ (σ : L2.St) (F H : Hp) (l : Loc) (env env' : Env') (gs : G) (vs : List V) (ds : List PyData) (Q : L2.St → Hp → Prop), Rel C σ F H l env gs → RepL C.K F vs ds → asgL ps ds env = some env' →
  (∀ σ', Rel C σ' F H l env' gs → Off (idxL ps) σ σ' → (∀ a, OwnAt σ' env' a → OwnAt σ env a) → Q σ' H) → g vs σ H Q
structure DG (X : Cx) (C : DCx) (e : Expr) (p : Pat) : Prop where
  run : C.K = X.K → ∃ g, PG X e g ∧ SimG C g p
structure DGs (X : Cx) (C : DCx) (es : List Expr) (ps : List Pat) : Prop where
  run : C.K = X.K → ∃ g, PGs X es g ∧ SimGs C g ps
section
variable {X : Cx} {C : DCx} {pos : Pos}
theorem dg_of {e : Expr} {i : Nat} (h : PG X e (gName i)) : DG X C e (.nm i) := ⟨fun _ => ⟨_, h, fun σ F H l env env' gs v d Q R r e q => by
  unfold asg at e
  split at e
  · cases e
    exact q _ (R.setd i r) ⟨by simp, fun j hj => get_set_ne (fun z => hj (by simp [Pat.idx, z]))⟩ fun a h => h.setd
  · cases e⟩⟩
theorem dgs_nil : DGs X C [] [] := ⟨fun _ => ⟨_, pgs_nil, fun σ F H l env env' gs vs ds Q R r e q => by
  cases ds with
  | nil =>
    cases e
    exact ⟨repL_nil.mp r, q σ R ⟨rfl, fun _ _ => rfl⟩ fun _ h => h⟩
  | cons _ _ => cases e⟩⟩
theorem dgs_cons {e : Expr} {es : List Expr} {p : Pat} {ps : List Pat} (h : DG X C e p) (hs : DGs X C es ps) (ha : (assignEach (e :: es) X.env).map (·.2) = assign e X.env :: (assignEach es X.env).map (·.2) := by rfl) : DGs X C (e :: es) (p :: ps) := by
  refine ⟨fun hK => ?_⟩
  obtain ⟨g, h1, s1⟩ := h.run hK
  obtain ⟨gs, h2, s2⟩ := hs.run hK
  refine ⟨_, pgs_cons h1 h2 ha, fun σ F H l env env' G vs ds Q R r e q => ?_⟩
  cases ds with
  | nil => cases e
  | cons d ds =>
    obtain ⟨v, w, rfl, r1, r2⟩ := repL_cons.mp r
    refine ⟨v, w, rfl, ?_⟩
    cases z : asg p d env with
    | none => simp [asgL, z] at e
    | some env1 =>
      simp [asgL, z] at e
      refine s1 σ F H l env env1 G v d _ R r1 z fun σ1 R1 o1 w1 => ?_
      refine s2 σ1 F H l env1 env' G w ds Q R1 r2 e fun σ2 R2 o2 w2 => ?_
      exact q σ2 R2 (o1.trans o2) fun a h => w1 a (w2 a h)
theorem dg_tup {es : List Expr} {k : Nat} {ps : List Pat} (hc : X.calm = true) (h : DGs X C es ps) (hn : (assignEach es X.env).length = ps.length := by rfl) (hst : (assignEach es X.env).findIdx? (·.1) = none := by rfl) : DG X C (.Tuple es k pos) (.tp ps) := by
  refine ⟨fun hK => ?_⟩
  obtain ⟨g, h1, s1⟩ := h.run hK
  refine ⟨_, pg_tup hc h1 hn hst, fun σ F H l env env' G v d Q R r e q => ?_⟩
  unfold asg at e
  split at e
  · rename_i ds
    obtain ⟨a, vs, rfl, t, r⟩ := rep_tupS r
    refine ⟨a, vs, rfl, by rw [← hK]; exact SqT.up R.sub t, ?_, s1 σ F H l env env' G vs ds Q R r e fun σ' R' o w => q σ' R' o w⟩
    rw [r.length]
    exact asgL_length e
  · cases e
end
/-! ### what is walked -/
structure Walks (K : PySem.W.Frag) (J : It) (xs : List PyData) (F : Hp) : Prop where
  go : ∀ F' H' i, Same F F' → Same F' H' → i < xs.length → J.go i H'
  yl : ∀ F' H' i v H2, Same F F' → Same F' H' → i < xs.length → J.yld i H' v H2 → ∃ F2 d, xs[i]? = some d ∧ New K F' H' F2 H2 v (.d d)
  st : ∀ F' H', Same F F' → Same F' H' → J.stop xs.length H'
theorem New.same {K : PySem.W.Frag} {F H : Hp} {v : V} {d : PyData} (s : Same F H) (r : Rep K F v d) : New K F H F H v (.d d) := ⟨.refl _, .refl _, s, fun _ e => .inl e, r⟩
theorem New.tup {K : PySem.W.Frag} {F H : Hp} {p : Addr} {vs : List V} {ds : List PyData} (s : Same F H) (n : H p = none) (r : RepL K F vs ds) : New K F H (upd F p (.tup vs)) (upd H p (.tup vs)) (.ref p) (.d (.tuple ds)) := by
  have nf := none_sub s n
  refine ⟨Same.upd nf, Same.upd n, fun b o e => ?_, fun a e => ?_, ?_⟩
  · by_cases hb : b = p
    · subst hb; rw [upd_same] at e ⊢; exact e
    · rw [upd_ne hb] at e ⊢; exact s _ _ e
  · by_cases hb : a = p
    · subst hb; exact .inr (.inl n)
    · rw [upd_ne hb] at e; exact .inl e
  · exact rep_tup.mpr ⟨p, vs, rfl, upd_same, RepL.up (Same.upd nf) _ _ r⟩
theorem walks_list {K : PySem.W.Frag} {F : Hp} {a : Addr} {vs : List V} {ds : List PyData} (h : F a = some (.lst vs)) (r : RepL K F vs ds) : Walks K (Itl K a) ds F where
  go := fun F' H' i s1 s2 hi => by
    rw [← r.length] at hi
    exact ⟨vs, vs[i], SqL.of (s2 _ _ (s1 _ _ h)), by simp [hi]⟩
  yl := fun F' H' i v H2 s1 s2 hi y => by
    obtain ⟨rfl, y⟩ := y
    obtain ⟨d, hd, rd⟩ := r.get (y vs (SqL.of (s2 _ _ (s1 _ _ h))))
    exact ⟨F', d, hd, New.same s2 (Rep.up s1 _ _ rd)⟩
  st := fun F' H' s1 s2 => ⟨vs, SqL.of (s2 _ _ (s1 _ _ h)), Nat.le_of_eq r.length⟩
theorem walks_tup {K : PySem.W.Frag} {F : Hp} {a : Addr} {vs : List V} {ds : List PyData} (h : SqT K F a vs) (r : RepL K F vs ds) : Walks K (Itt K a) ds F where
  go := fun F' H' i s1 s2 hi => by
    rw [← r.length] at hi
    exact ⟨vs, vs[i], SqT.up s2 (SqT.up s1 h), by simp [hi]⟩
  yl := fun F' H' i v H2 s1 s2 hi y => by
    obtain ⟨rfl, y⟩ := y
    obtain ⟨d, hd, rd⟩ := r.get (y vs (SqT.up s2 (SqT.up s1 h)))
    exact ⟨F', d, hd, New.same s2 (Rep.up s1 _ _ rd)⟩
  st := fun F' H' s1 s2 => ⟨vs, SqT.up s2 (SqT.up s1 h), Nat.le_of_eq r.length⟩
def signs (z : Str) : List PyData := z.cps.toList.map fun c => .str ⟨#[c]⟩
theorem walks_str {K : PySem.W.Frag} {F : Hp} {z : Str} : Walks K (Its z) (signs z) F where
  go := fun F' H' i s1 s2 hi => by
    have hi : i < z.cps.size := by simpa [signs] using hi
    exact hi
  yl := fun F' H' i v H2 s1 s2 hi y => by
    obtain ⟨rfl, c, hc, rfl⟩ := y
    exact ⟨F', .str ⟨#[c]⟩, by simp [signs, hc], New.same s2 (rep_str.mpr rfl)⟩
  st := fun F' H' s1 s2 => by
    show z.cps.size ≤ _
    simp [signs]
def intsFrom (lo : Int) (n : Nat) : List PyData := (List.range n).map fun i => .int (lo + (i : Nat))
theorem walks_range {K : PySem.W.Frag} {F : Hp} {lo : Int} {n : Nat} : Walks K (Itr lo n) (intsFrom lo n) F where
  go := fun F' H' i s1 s2 hi => by
    have hi : i < n := by simpa [intsFrom] using hi
    exact hi
  yl := fun F' H' i v H2 s1 s2 hi y => by
    obtain ⟨rfl, rfl⟩ := y
    have hi : i < n := by simpa [intsFrom] using hi
    exact ⟨F', .int (lo + (i : Nat)), by simp [intsFrom, hi], New.same s2 (rep_int.mpr rfl)⟩
  st := fun F' H' s1 s2 => by
    show n ≤ _
    simp [intsFrom]
def numbered : Nat → List PyData → List PyData
  | _, [] => []
  | k, d :: ds => .tuple [.int (k : Nat), d] :: numbered (k + 1) ds
theorem numbered_length : ∀ (ds : List PyData) (k : Nat), (numbered k ds).length = ds.length
  | [], _ => rfl
  | d :: ds, k => by simp [numbered, numbered_length ds]
theorem numbered_get : ∀ (ds : List PyData) (k i : Nat) (d : PyData), ds[i]? = some d → (numbered k ds)[i]? = some (.tuple [.int ((k + i : Nat) : Int), d])
  | [], _, _, _, h => by simp at h
  | d :: ds, k, 0, x, h => by simp at h; subst h; simp [numbered]
  | d :: ds, k, i + 1, x, h => by
    have := numbered_get ds (k + 1) i x (by simpa using h)
    simp only [numbered, List.getElem?_cons_succ]
    rw [this]
    congr 4
    omega
theorem repL_two {K : PySem.W.Frag} {F : Hp} {a b : V} {x y : PyData} (h1 : Rep K F a x) (h2 : Rep K F b y) : RepL K F [a, b] [x, y] := repL_cons.mpr ⟨_, _, rfl, h1, repL_cons.mpr ⟨_, _, rfl, h2, repL_nil.mpr rfl⟩⟩
theorem walks_enum {K : PySem.W.Frag} {F : Hp} {a : Addr} {vs : List V} {ds : List PyData} (h : F a = some (.lst vs)) (r : RepL K F vs ds) : Walks K (Ite K a) (numbered 0 ds) F where
  go := fun F' H' i s1 s2 hi => by
    rw [numbered_length, ← r.length] at hi
    exact ⟨vs, vs[i], SqL.of (s2 _ _ (s1 _ _ h)), by simp [hi]⟩
  yl := fun F' H' i v H2 s1 s2 hi y => by
    obtain ⟨T, x, rfl, hT, rfl, y⟩ := y
    obtain ⟨d, hd, rd⟩ := r.get (y vs (SqL.of (s2 _ _ (s1 _ _ h))))
    exact ⟨_, _, by rw [numbered_get ds 0 i d hd, Nat.zero_add], New.tup s2 hT (repL_two (rep_int.mpr rfl) (Rep.up s1 _ _ rd))⟩
  st := fun F' H' s1 s2 => ⟨vs, SqL.of (s2 _ _ (s1 _ _ h)), by rw [numbered_length]; exact Nat.le_of_eq r.length⟩
theorem walks_enumT {K : PySem.W.Frag} {F : Hp} {a : Addr} {vs : List V} {ds : List PyData} (h : SqT K F a vs) (r : RepL K F vs ds) : Walks K (IteT K a) (numbered 0 ds) F where
  go := fun F' H' i s1 s2 hi => by
    rw [numbered_length, ← r.length] at hi
    exact ⟨vs, vs[i], SqT.up s2 (SqT.up s1 h), by simp [hi]⟩
  yl := fun F' H' i v H2 s1 s2 hi y => by
    obtain ⟨T, x, rfl, hT, rfl, y⟩ := y
    obtain ⟨d, hd, rd⟩ := r.get (y vs (SqT.up s2 (SqT.up s1 h)))
    exact ⟨_, _, by rw [numbered_get ds 0 i d hd, Nat.zero_add], New.tup s2 hT (repL_two (rep_int.mpr rfl) (Rep.up s1 _ _ rd))⟩
  st := fun F' H' s1 s2 => ⟨vs, SqT.up s2 (SqT.up s1 h), by rw [numbered_length]; exact r.length.symm⟩
def zipped (xs ys : List PyData) : List PyData := List.zipWith (fun a b => .tuple [a, b]) xs ys
theorem zipped_length (xs ys : List PyData) : (zipped xs ys).length = min xs.length ys.length := by simp [zipped]
theorem walks_zip {K : PySem.W.Frag} {F : Hp} {a b : Addr} {vs ws : List V} {ds es : List PyData} (h : F a = some (.lst vs)) (r : RepL K F vs ds) (h2 : F b = some (.lst ws)) (r2 : RepL K F ws es) : Walks K (Itz K a b) (zipped ds es) F where
  go := fun F' H' i s1 s2 hi => by
    rw [zipped_length, ← r.length, ← r2.length] at hi
    have q1 : i < vs.length := by omega
    have q2 : i < ws.length := by omega
    exact walk_zip (K := K) (n := min vs.length ws.length) rfl |>.goes i H' (by omega) ⟨SqL.of (s2 _ _ (s1 _ _ h)), SqL.of (s2 _ _ (s1 _ _ h2))⟩
  yl := fun F' H' i v H2 s1 s2 hi y => by
    rw [zipped_length, ← r.length, ← r2.length] at hi
    obtain ⟨T, x, z, rfl, hT, rfl, y1, y2⟩ := walk_zip (K := K) (n := min vs.length ws.length) rfl |>.yields i H' v H2 (by omega) ⟨SqL.of (s2 _ _ (s1 _ _ h)), SqL.of (s2 _ _ (s1 _ _ h2))⟩ y
    obtain ⟨d, hd, rd⟩ := r.get y1
    obtain ⟨d2, hd2, rd2⟩ := r2.get y2
    exact ⟨_, _, by simp [zipped, List.getElem?_zipWith, hd, hd2], New.tup s2 hT (repL_two (Rep.up s1 _ _ rd) (Rep.up s1 _ _ rd2))⟩
  st := fun F' H' s1 s2 => by
    rw [zipped_length, ← r.length, ← r2.length]
    exact walk_zip (K := K) (n := min vs.length ws.length) rfl |>.stops H' ⟨SqL.of (s2 _ _ (s1 _ _ h)), SqL.of (s2 _ _ (s1 _ _ h2))⟩
theorem walks_zipT {K : PySem.W.Frag} {F : Hp} {a b : Addr} {vs ws : List V} {ds es : List PyData} (h : SqT K F a vs) (r : RepL K F vs ds) (h2 : SqT K F b ws) (r2 : RepL K F ws es) : Walks K (RZ.ItzT K a b) (zipped ds es) F where
  go := fun F' H' i s1 s2 hi => by
    rw [zipped_length, ← r.length, ← r2.length] at hi
    have q1 : i < vs.length := by omega
    have q2 : i < ws.length := by omega
    exact ⟨vs, ws, vs[i], ws[i], SqT.up s2 (SqT.up s1 h), SqT.up s2 (SqT.up s1 h2), by simp [q1], by simp [q2]⟩
  yl := fun F' H' i v H2 s1 s2 hi y => by
    obtain ⟨T, x, z, rfl, hT, rfl, y1, y2⟩ := y
    obtain ⟨d, hd, rd⟩ := r.get (y1 vs (SqT.up s2 (SqT.up s1 h)))
    obtain ⟨d2, hd2, rd2⟩ := r2.get (y2 ws (SqT.up s2 (SqT.up s1 h2)))
    exact ⟨_, _, by simp [zipped, List.getElem?_zipWith, hd, hd2], New.tup s2 hT (repL_two (Rep.up s1 _ _ rd) (Rep.up s1 _ _ rd2))⟩
  st := fun F' H' s1 s2 => ⟨vs, ws, SqT.up s2 (SqT.up s1 h), SqT.up s2 (SqT.up s1 h2), by rw [zipped_length, ← r.length, ← r2.length]; omega⟩
def KI (C : DCx) (σ : L2.St) (F H : Hp) (l : Loc) (env : Env') (R : It → Hp → Prop) : List PyData → Env' → G → Prop := fun xs env' g' =>
  ∀ J F' H' l', Rel C σ F' H' l' env' g' → Ext σ F H l env F' H' l' env' → Walks C.K J xs F' → R J H'
def SimI (C : DCx) (wi : TI) (m : M (List PyData)) : Prop := ∀ (σ : L2.St) (F H : Hp) (l : Loc) (env : Env') (g : G) (R : It → Hp → Prop), Rel C σ F H l env g → Wp (m env g) (KI C σ F H l env R) (KX C σ) → wi σ H R
structure DI (X : Cx) (C : DCx) (tg e : Expr) (m : M (List PyData)) : Prop where
  run : C.K = X.K → ∃ wi, PI X tg e wi ∧ SimI C wi m
/-- a list, a tuple, a text -/
def mItems : PyData → M (List PyData)
  | .list ds => M.pure ds
  | .tuple ds => M.pure ds
  | .str z => M.pure (signs z)
  | _ => M.bad
section
variable {X : Cx} {C : DCx} {pos : Pos} {tg e : Expr} {es : List Expr}
def iSeq (K : PySem.W.Frag) (t : TE) : TI := fun σ H R => t σ H fun x H1 => (∃ a, x = .ref a ∧ (∃ xs, SqL K H1 a xs) ∧ R (Itl K a) H1) ∨ (∃ a, x = .ref a ∧ (∃ xs, SqT K H1 a xs) ∧ R (Itt K a) H1) ∨ ∃ z, x = .str z ∧ R (Its z) H1
theorem pi_seq {t : TE} (h : PE X e t) : PI X tg e (iSeq X.K t) := by
  refine ⟨fun pins s σ H R I w => ?_⟩
  refine thn (h.run pins s σ H _ I w) fun v s1 ⟨x, H1, I1, r1, q1⟩ => ?_
  rcases q1 with ⟨a, rfl, ⟨xs, hq⟩, q⟩ | ⟨a, rfl, ⟨xs, hq⟩, q⟩ | ⟨z, rfl, q⟩
  · cases r1
    obtain ⟨its, rv, p, _⟩ := I1.list hq
    exact wpAny_pyIter_list p.isList (pi_one (tk := s1.toks) I1 _ (turn_list a _) ⟨_, Heap.get?_push_size _ rfl, rfl, rfl⟩ q)
  · cases r1
    obtain ⟨its, rv, p, _⟩ := I1.tuple hq
    exact wpAny_pyIter_tuple (show s1.heap.IsTuple a its.toArray from p) (pi_one (tk := s1.toks) I1 _ (turn_tuple a _) ⟨_, Heap.get?_push_size _ rfl, rfl, rfl⟩ q)
  · obtain ⟨t, rfl⟩ := r1
    cases ha : z.cps.all (· < 128)
    · exact wpAny_pyIter_wide ha (pi_one (tk := s1.toks) I1 _ (turn_str _ z t "str_iterator" (.inr rfl)) ⟨_, Heap.get?_push_size _ rfl, rfl, rfl⟩ q)
    · exact wpAny_pyIter_ascii ha (pi_one (tk := s1.toks) I1 _ (turn_str _ z t "str_ascii_iterator" (.inl rfl)) ⟨_, Heap.get?_push_size _ rfl, rfl, rfl⟩ q)
theorem di_seq {m : M PyData} (h : DD X C e m) : DI X C tg e (m.bind mItems) := by
  refine ⟨fun hK => ?_⟩
  obtain ⟨t, h1, s1⟩ := h.run hK
  refine ⟨_, pi_seq h1, fun σ F H l env g R Rl w => ?_⟩
  refine s1 σ F H l env g _ Rl (Wp.mono (Wp.bind.mp w) (fun d env1 g1 w v F1 H1 l1 R1 x1 r1 => ?_) fun _ _ _ _ w => w)
  cases d with
  | list ds =>
    obtain ⟨a, vs, rfl, q, r⟩ := rep_list.mp r1
    exact .inl ⟨a, rfl, ⟨vs, SqL.of (R1.sub _ _ q)⟩, by rw [← hK]; exact w _ F1 H1 l1 R1 x1 (walks_list q r)⟩
  | tuple ds =>
    obtain ⟨a, vs, rfl, q, r⟩ := rep_tupS r1
    exact .inr (.inl ⟨a, rfl, ⟨vs, by rw [← hK]; exact SqT.up R1.sub q⟩, by rw [← hK]; exact w _ F1 H1 l1 R1 x1 (walks_tup q r)⟩)
  | str z => exact .inr (.inr ⟨z, rep_str.mp r1, w _ F1 H1 l1 R1 x1 walks_str⟩)
  | _ => exact w.elim
/-- range(j), range(i, j) -/
def evInts : List EV → Option (List Int)
  | [] => some []
  | .d (.int i) :: r => (evInts r).map (i :: ·)
  | _ :: _ => none
theorem evInts_rep {σ : L2.St} {F H H0 : Hp} {l : Loc} {env : Env'} : ∀ {evs : List EV} {vs : List V} {is : List Int}, Paired (fun v ev => RepEV C σ F H l env v ev ∧ FreshAt H0 v ev) vs evs → evInts evs = some is → vs = is.map V.int
  | [], _, _, .nil, h => by cases h; rfl
  | ev :: evs, _, is, .cons r t, h => by
    cases ev with
    | d x =>
      cases x with
      | int i =>
        cases q : evInts evs with
        | none => simp [evInts, q] at h
        | some js =>
          simp [evInts, q] at h
          subst h
          rw [evInts_rep t q, show _ = V.int i from rep_int.mp (show Rep C.K F _ (.int i) from r.1)]
          rfl
      | _ => simp [evInts] at h
    | _ => simp [evInts] at h
def rngTo (i j : Int) : Option (List PyData) := if i.natAbs < 2 ^ 62 ∧ j.natAbs < 2 ^ 62 then some (intsFrom i (j - i).toNat) else none
theorem rngTo_inv {i j : Int} {xs : List PyData} (h : rngTo i j = some xs) : (-(2 ^ 62) ≤ i ∧ i < 2 ^ 62 ∧ -(2 ^ 62) ≤ j ∧ j < 2 ^ 62) ∧ intsFrom i (j - i).toNat = xs := by
  unfold rngTo at h
  split at h
  · rename_i c; exact ⟨⟨by omega, by omega, by omega, by omega⟩, Option.some.inj h⟩
  · cases h
def rng1 : List Int → M (List PyData)
  | [j] => M.opt (rngTo 0 j)
  | _ => M.bad
def rng2 : List Int → M (List PyData)
  | [i, j] => M.opt (rngTo i j)
  | _ => M.bad
def mRange1 (evs : List EV) : M (List PyData) := (M.opt (evInts evs)).bind rng1
def mRange2 (evs : List EV) : M (List PyData) := (M.opt (evInts evs)).bind rng2
theorem wp_ite {α : Type} {c : Prop} [Decidable c] {m : M α} {e : Env'} {g : G} {K : α → Env' → G → Prop} {E : Str → PyData → Env' → G → Prop} (h : Wp ((if c then m else M.bad) e g) K E) : c ∧ Wp (m e g) K E := by
  by_cases q : c
  · rw [if_pos q] at h; exact ⟨q, h⟩
  · rw [if_neg q] at h; exact h.elim
theorem di_range1 {a : Expr} {p : Pos} {m : M (List EV)} (hg : Gl X "range") (hm : X.mg "range" = none) (h : DA X C [a] m) (hs : starEach [a] X.env = [(false, eval a X.env)] := by rfl) : DI X C tg (.Call (.Name "range" p) [a] [] pos) (m.bind mRange1) := by
  refine ⟨fun hK => ?_⟩
  obtain ⟨t, h1, s1⟩ := h.run hK
  refine ⟨_, pi_range1 hg hm h1 hs, fun σ F H l env g R Rl w => ?_⟩
  refine s1 σ F H l env g _ Rl (Wp.mono (Wp.bind.mp w) (fun evs env1 g1 w vs F1 H1 l1 R1 x1 r1 => ?_) fun _ _ _ _ w => w)
  obtain ⟨is, q, w⟩ := Wp.opt (Wp.bind.mp w)
  rcases is with _ | ⟨j, _ | ⟨k, t⟩⟩
  · exact w.elim
  · obtain ⟨xs, q1, w⟩ := Wp.opt w
    obtain ⟨⟨_, _, c1, c2⟩, rfl⟩ := rngTo_inv q1
    rw [Int.sub_zero] at w
    exact ⟨j, evInts_rep r1 q, c1, c2, w _ F1 H1 l1 R1 x1 walks_range⟩
  · exact w.elim
theorem di_range2 {a b : Expr} {p : Pos} {m : M (List EV)} (hg : Gl X "range") (hm : X.mg "range" = none) (h : DA X C [a, b] m) (hs : starEach [a, b] X.env = [(false, eval a X.env), (false, eval b X.env)] := by rfl) (hs2 : starEach [b] X.env = [(false, eval b X.env)] := by rfl) :
    DI X C tg (.Call (.Name "range" p) [a, b] [] pos) (m.bind mRange2) := by
  refine ⟨fun hK => ?_⟩
  obtain ⟨t, h1, s1⟩ := h.run hK
  refine ⟨_, pi_range2 hg hm h1 hs hs2, fun σ F H l env g R Rl w => ?_⟩
  refine s1 σ F H l env g _ Rl (Wp.mono (Wp.bind.mp w) (fun evs env1 g1 w vs F1 H1 l1 R1 x1 r1 => ?_) fun _ _ _ _ w => w)
  obtain ⟨is, q, w⟩ := Wp.opt (Wp.bind.mp w)
  rcases is with _ | ⟨i, _ | ⟨j, _ | ⟨k, t⟩⟩⟩
  · exact w.elim
  · exact w.elim
  · obtain ⟨xs, q1, w⟩ := Wp.opt w
    obtain ⟨c, rfl⟩ := rngTo_inv q1
    exact ⟨i, j, evInts_rep r1 q, c, w _ F1 H1 l1 R1 x1 walks_range⟩
  · exact w.elim
/-- enumerate of a list or a tuple -/
def mEnum : List EV → M (List PyData)
  | [.d (.list ds)] => M.pure (numbered 0 ds)
  | [.d (.tuple ds)] => M.pure (numbered 0 ds)
  | _ => M.bad
def iEnumA (K : PySem.W.Frag) (ta : TA) : TI := fun σ H R => ta σ H fun vs H1 => ∃ a, vs = [.ref a] ∧ ((∃ xs, SqL K H1 a xs ∧ R (Ite K a) H1) ∨ ∃ xs, SqT K H1 a xs ∧ R (IteT K a) H1)
theorem pi_enumA {a : Expr} {ta : TA} {p tpos : Pos} {elts : List Expr} {kk : Nat} (hg : Gl X "enumerate") (hm : X.mg "enumerate" = none) (ha : PA X [a] ta) (hs : starEach [a] X.env = [(false, eval a X.env)] := by rfl) :
    PI X (.Tuple elts kk tpos) (.Call (.Name "enumerate" p) [a] [] pos) (iEnumA X.K ta) := by
  refine ⟨fun pins s σ H R I h => ?_⟩
  refine PyProof.Rows.Call_ (ld_blt I hg hm PyProof.Rows.boot_enumerate (PyProof.Rows.callWith_type1 (thn (ha.run pos pins s σ H _ I h) fun us s1 ⟨vs, H1, I1, r1, q1⟩ => ?_) hs rfl))
  obtain ⟨a, ex, q1⟩ := q1
  subst ex
  cases r1 with
  | cons r rr =>
    cases rr
    cases r
    have two : ∀ b, b ∈ [s1.heap.objs.size + 1, s1.heap.objs.size] → FpOk X pins H1 b := fun b hb => by
      have hle : s1.heap.objs.size ≤ b := by
        rcases (show b = s1.heap.objs.size + 1 ∨ b = s1.heap.objs.size by simpa using hb) with z | z <;> omega
      exact I1.fpOk hle (I1.hok.fresh hle)
    rcases q1 with ⟨xs, hq, q⟩ | ⟨xs, hq, q⟩
    · obtain ⟨its, rv, p', hz⟩ := I1.list hq
      refine enumCall1 (begins_list a its.toArray) p'.isList fun h' he ho hk => wpAny_pyIter_enum he ?_
      have I2 : Inv X pins σ H1 { s1 with heap := h' } := I1.kept (t' := s1.toks) hk
      exact ⟨s1.heap.objs.size + 1, [s1.heap.objs.size + 1, s1.heap.objs.size], _, _, H1, rfl, I2, turn_enum a (s1.heap.objs.size + 1) s1.heap.objs.size, ⟨⟨.none, he⟩, ⟨_, ho, rfl, rfl⟩, Nat.succ_ne_self _⟩, two, q⟩
    · obtain ⟨its, rv, p', hz⟩ := I1.tuple hq
      refine enumCall1 (begins_tuple a its.toArray) (show s1.heap.IsTuple a its.toArray from p') fun h' he ho hk => wpAny_pyIter_enum he ?_
      have I2 : Inv X pins σ H1 { s1 with heap := h' } := I1.kept (t' := s1.toks) hk
      exact ⟨s1.heap.objs.size + 1, [s1.heap.objs.size + 1, s1.heap.objs.size], _, _, H1, rfl, I2, turnEnumT a (s1.heap.objs.size + 1) s1.heap.objs.size, ⟨⟨.none, he⟩, ⟨_, ho, rfl, rfl⟩, Nat.succ_ne_self _⟩, two, q⟩
theorem di_enum {a : Expr} {p tpos : Pos} {elts : List Expr} {kk : Nat} {m : M (List EV)} (hg : Gl X "enumerate") (hm : X.mg "enumerate" = none) (h : DA X C [a] m) (hs : starEach [a] X.env = [(false, eval a X.env)] := by rfl) :
    DI X C (.Tuple elts kk tpos) (.Call (.Name "enumerate" p) [a] [] pos) (m.bind mEnum) := by
  refine ⟨fun hK => ?_⟩
  obtain ⟨t, h1, s1⟩ := h.run hK
  refine ⟨_, pi_enumA hg hm h1 hs, fun σ F H l env g R Rl w => ?_⟩
  refine s1 σ F H l env g _ Rl (Wp.mono (Wp.bind.mp w) (fun evs env1 g1 w vs F1 H1 l1 R1 x1 r1 => ?_) fun _ _ _ _ w => w)
  unfold mEnum at w
  split at w
  · rename_i ds
    cases r1 with
    | cons r rr =>
      cases rr
      obtain ⟨a, vs, rfl, q, r⟩ := rep_list.mp (show Rep C.K F1 _ (.list ds) from r.1)
      exact ⟨a, rfl, .inl ⟨vs, SqL.of (R1.sub _ _ q), by rw [← hK]; exact w _ F1 H1 l1 R1 x1 (walks_enum q r)⟩⟩
  · rename_i ds
    cases r1 with
    | cons r rr =>
      cases rr
      obtain ⟨a, vs, rfl, q, r⟩ := rep_tupS (show Rep C.K F1 _ (.tuple ds) from r.1)
      exact ⟨a, rfl, .inr ⟨vs, by rw [← hK]; exact SqT.up R1.sub q, by rw [← hK]; exact w _ F1 H1 l1 R1 x1 (walks_enumT q r)⟩⟩
  · exact w.elim
/-- zip of two lists, of two tuples -/
def mZip : List EV → M (List PyData)
  | [.d (.list ds), .d (.list es)] => M.pure (zipped ds es)
  | [.d (.tuple ds), .d (.tuple es)] => M.pure (zipped ds es)
  | _ => M.bad
theorem di_zip {a b : Expr} {p tpos : Pos} {elts : List Expr} {kk : Nat} {m : M (List EV)} (hg : Gl X "zip") (hm : X.mg "zip" = none) (h : DA X C [a, b] m) (hs : starEach [a, b] X.env = (false, eval a X.env) :: starEach [b] X.env := by rfl) (hpl : (backTo pos (starEach [b] X.env)).any (·.1) = false := by rfl) :
    DI X C (.Tuple elts kk tpos) (.Call (.Name "zip" p) [a, b] [] pos) (m.bind mZip) := by
  refine ⟨fun hK => ?_⟩
  obtain ⟨t, h1, s1⟩ := h.run hK
  refine ⟨_, RZ.pi_zipA hg hm h1 hs hpl, fun σ F H l env g R Rl w => ?_⟩
  refine s1 σ F H l env g _ Rl (Wp.mono (Wp.bind.mp w) (fun evs env1 g1 w vs F1 H1 l1 R1 x1 r1 => ?_) fun _ _ _ _ w => w)
  unfold mZip at w
  split at w
  · rename_i ds es
    cases r1 with
    | cons r rr =>
      cases rr with
      | cons r' rr =>
        cases rr
        obtain ⟨a, vs, rfl, q, r⟩ := rep_list.mp (show Rep C.K F1 _ (.list ds) from r.1)
        obtain ⟨b, ws, rfl, q', r'⟩ := rep_list.mp (show Rep C.K F1 _ (.list es) from r'.1)
        exact ⟨a, b, vs, ws, rfl, .inl ⟨SqL.of (R1.sub _ _ q), SqL.of (R1.sub _ _ q'), by rw [← hK]; exact w _ F1 H1 l1 R1 x1 (walks_zip q r q' r')⟩⟩
  · rename_i ds es
    cases r1 with
    | cons r rr =>
      cases rr with
      | cons r' rr =>
        cases rr
        obtain ⟨a, vs, rfl, q, r⟩ := rep_tupS (show Rep C.K F1 _ (.tuple ds) from r.1)
        obtain ⟨b, ws, rfl, q', r'⟩ := rep_tupS (show Rep C.K F1 _ (.tuple es) from r'.1)
        exact ⟨a, b, vs, ws, rfl, .inr ⟨by rw [← hK]; exact SqT.up R1.sub q, by rw [← hK]; exact SqT.up R1.sub q', by rw [← hK]; exact w _ F1 H1 l1 R1 x1 (walks_zipT q r q' r')⟩⟩
  · exact w.elim
end
end DL
namespace DL
open PySem L2
/-! ### comprehensions -/
def wipeE (env : Env') : List Nat → Env'
  | [] => env
  | v :: vs => (wipeE env vs).set v .un
/-- the names of the block as they were ahead -/
def backE (e0 e : Env') : List Nat → Env'
  | [] => e
  | v :: vs => match e0[v]? with
    | some s => (backE e0 e vs).set v s
    | none => backE e0 e vs
def noOwn (e : Env') (vs : List Nat) : Bool := vs.all fun i => match e[i]? with
  | some (.own _) => false
  | _ => true
theorem wipeE_length (e : Env') : ∀ vs : List Nat, (wipeE e vs).length = e.length
  | [] => rfl
  | v :: vs => by simp [wipeE, wipeE_length e vs]
theorem wipeE_in {e : Env'} {i : Nat} {s : Slot} : ∀ {vs : List Nat}, (wipeE e vs)[i]? = some s → i ∈ vs → s = .un
  | v :: vs, h, hi => by
    rcases get_set_cases h with ⟨_, w⟩ | ⟨z, q⟩
    · exact w.symm
    · rcases List.mem_cons.mp hi with y | y
      · exact absurd y.symm z
      · exact wipeE_in q y
theorem wipeE_out {e : Env'} {i : Nat} : ∀ {vs : List Nat}, i ∉ vs → (wipeE e vs)[i]? = e[i]?
  | [], _ => rfl
  | v :: vs, h => by
    rw [List.mem_cons, not_or] at h
    rw [wipeE, get_set_ne (fun z => h.1 z.symm)]
    exact wipeE_out h.2
theorem wipe_out' {σ : L2.St} {i : Nat} : ∀ {vs : List Nat}, i ∉ vs → (wipe σ vs)[i]? = σ[i]?
  | [], _ => rfl
  | v :: vs, h => by
    rw [List.mem_cons, not_or] at h
    rw [wipe, get_set_ne (fun z => h.1 z.symm)]
    exact wipe_out' h.2
theorem wipeE_not {e : Env'} {i : Nat} {s : Slot} {vs : List Nat} (h : (wipeE e vs)[i]? = some s) (n : s ≠ .un) : i ∉ vs ∧ e[i]? = some s := by
  have hi : i ∉ vs := fun z => n (wipeE_in h z)
  exact ⟨hi, by rw [← wipeE_out hi]; exact h⟩
theorem Rel.wiped {C : DCx} {σ : L2.St} {F H : Hp} {l : Loc} {env : Env'} {g : G} (R : Rel C σ F H l env g) (vs : List Nat) : Rel C (wipe σ vs) F H l (wipeE env vs) g where
  sub := R.sub
  len := by rw [wipe_length, wipeE_length]; exact R.len
  dat := fun i x e => by
    obtain ⟨h1, h2⟩ := wipeE_not e (by nofun)
    rw [wipe_out' h1]
    exact R.dat i x h2
  own := fun i x e => by
    obtain ⟨h1, h2⟩ := wipeE_not e (by nofun)
    rw [wipe_out' h1]
    exact R.own i x h2
  inj := fun i j x y a e1 e2 h1 h2 => by
    obtain ⟨p1, q1⟩ := wipeE_not e1 (by nofun)
    obtain ⟨p2, q2⟩ := wipeE_not e2 (by nofun)
    rw [wipe_out' p1] at h1
    rw [wipe_out' p2] at h2
    exact R.inj i j x y a q1 q2 h1 h2
  iscr := fun i ns e => by
    obtain ⟨h1, h2⟩ := wipeE_not e (by nofun)
    rw [wipe_out' h1]
    exact R.iscr i ns h2
  isrc := fun i b e => by
    obtain ⟨h1, h2⟩ := wipeE_not e (by nofun)
    rw [wipe_out' h1]
    exact R.isrc i b h2
  src := R.src
  old := R.old
  oldd := R.oldd
  f0 := R.f0
  fo := R.fo
  lo := R.lo
  l0 := R.l0
theorem OwnAt.wiped {σ : L2.St} {env : Env'} {vs : List Nat} {a : Addr} (h : OwnAt (wipe σ vs) (wipeE env vs) a) : OwnAt σ env a := by
  obtain ⟨i, x, e, q⟩ := h
  obtain ⟨h1, h2⟩ := wipeE_not e (by nofun)
  rw [wipe_out' h1] at q
  exact ⟨i, x, h2, q⟩
theorem OwnAt.wipe {σ : L2.St} {env : Env'} {vs : List Nat} {a : Addr} (h : OwnAt σ env a) (n : noOwn env vs = true) : OwnAt (L2.wipe σ vs) (wipeE env vs) a := by
  obtain ⟨i, x, e, q⟩ := h
  have hi : i ∉ vs := fun z => by
    have := List.all_eq_true.mp n i z
    simp [e] at this
  exact ⟨i, x, by rw [wipeE_out hi]; exact e, by rw [wipe_out' hi]; exact q⟩
theorem backE_length (e0 e : Env') : ∀ vs : List Nat, (backE e0 e vs).length = e.length
  | [] => rfl
  | v :: vs => by
    unfold backE
    split
    · rw [List.length_set, backE_length e0 e vs]
    · exact backE_length e0 e vs
theorem backE_get {e0 e : Env'} {i : Nat} {s : Slot} : ∀ {vs : List Nat}, (backE e0 e vs)[i]? = some s → (i ∈ vs ∧ e0[i]? = some s) ∨ (e[i]? = some s ∧ (i ∉ vs ∨ e0[i]? = none))
  | [], h => .inr ⟨h, .inl (by simp)⟩
  | v :: vs, h => by
    unfold backE at h
    split at h
    · rename_i t q
      rcases get_set_cases h with ⟨z, w⟩ | ⟨z, h⟩
      · subst z; subst w; exact .inl ⟨by simp, q⟩
      · rcases backE_get h with ⟨h1, h2⟩ | ⟨h1, h2⟩
        · exact .inl ⟨by simp [h1], h2⟩
        · refine .inr ⟨h1, h2.elim (fun w => .inl ?_) .inr⟩
          rw [List.mem_cons, not_or]
          exact ⟨fun y => z y.symm, w⟩
    · rename_i q
      rcases backE_get h with ⟨h1, h2⟩ | ⟨h1, h2⟩
      · exact .inl ⟨by simp [h1], h2⟩
      · by_cases y : i = v
        · subst y; exact .inr ⟨h1, .inr q⟩
        · refine .inr ⟨h1, h2.elim (fun w => .inl ?_) .inr⟩
          rw [List.mem_cons, not_or]
          exact ⟨y, w⟩
/-- the end of a block -/
theorem Rel.back {C : DCx} {σ : L2.St} {F H F' H' : Hp} {l l' : Loc} {e0 e : Env'} {g g' : G} {vs : List Nat} (R0 : Rel C σ F H l e0 g) (n : noOwn e0 vs = true) (R : Rel C (wipe σ vs) F' H' l' e g') (x : ExtO (OwnAt σ e0) F H l F' H' l' (OwnAt (wipe σ vs) e)) :
    Rel C σ F' H' l' (backE e0 e vs) g' ∧ Ext σ F H l e0 F' H' l' (backE e0 e vs) := by
  have len0 : e0.length = e.length := by rw [← R0.len, ← R.len, wipe_length]
  have key : ∀ i s, (backE e0 e vs)[i]? = some s → (i ∈ vs ∧ e0[i]? = some s) ∨ (e[i]? = some s ∧ i ∉ vs) := fun i s h => by
    rcases backE_get h with q | ⟨q1, q2⟩
    · exact .inl q
    · refine .inr ⟨q1, q2.elim id fun w z => ?_⟩
      have := (List.getElem?_eq_some_iff.mp q1).1
      rw [List.getElem?_eq_none_iff] at w
      omega
  have own' : ∀ i y, (backE e0 e vs)[i]? = some (.own y) → e[i]? = some (.own y) ∧ i ∉ vs := fun i y h => by
    rcases key i _ h with ⟨h1, h2⟩ | q
    · have := List.all_eq_true.mp n i h1
      simp [h2] at this
    · exact q
  have oa : ∀ a, OwnAt σ (backE e0 e vs) a → OwnAt (wipe σ vs) e a := fun a ⟨i, y, h1, h2⟩ => by
    obtain ⟨q1, q2⟩ := own' i y h1
    exact ⟨i, y, q1, by rw [wipe_out' q2]; exact h2⟩
  refine ⟨⟨R.sub, by rw [backE_length, ← R.len, wipe_length], fun i y h => ?_, fun i y h => ?_, fun i j y z a h1 h2 g1 g2 => ?_, fun i ns h => ?_, fun i bb h => ?_, R.src, R.old, R.oldd, R.f0, R.fo, R.lo, R.l0⟩, x.conv (fun _ h => h) fun a h => x.ow a (oa a h)⟩
  · rcases key i _ h with ⟨h1, h2⟩ | ⟨h1, h2⟩
    · obtain ⟨v, e1, r⟩ := R0.dat i y h2
      exact ⟨v, e1, Rep.up x.fs _ _ r⟩
    · rw [← wipe_out' h2]; exact R.dat i y h1
  · obtain ⟨h1, h2⟩ := own' i y h
    rw [← wipe_out' h2]; exact R.own i y h1
  · obtain ⟨p1, q1⟩ := own' i y h1
    obtain ⟨p2, q2⟩ := own' j z h2
    exact R.inj i j y z a p1 p2 (by rw [wipe_out' q1]; exact g1) (by rw [wipe_out' q2]; exact g2)
  · rcases key i _ h with ⟨h1, h2⟩ | ⟨h1, h2⟩
    · obtain ⟨v, e1, r⟩ := R0.iscr i ns h2
      exact ⟨v, e1, x.fs.seq r⟩
    · rw [← wipe_out' h2]; exact R.iscr i ns h1
  · rcases key i _ h with ⟨h1, h2⟩ | ⟨h1, h2⟩
    · obtain ⟨d, c, e1, r⟩ := R0.isrc i _ h2
      exact ⟨d, c, x.ls _ e1, r⟩
    · rw [← wipe_out' h2]; exact R.isrc i _ h1
def loopC (p : Pat) (vs : List Nat) (mt : M Bool) (me : M PyData) : List PyData → List PyData → M (List PyData)
  | [], acc => M.pure acc
  | x :: xs, acc => fun e g => match asg p x e with
    | none => .bad
    | some e1 => (mt.bind fun b => if b then me.bind fun y => fun e2 g2 => if acc.length < sizeLine then loopC p vs mt me xs (acc ++ [y]) (wipeE e2 vs) g2 else .bad
        else fun e2 g2 => loopC p vs mt me xs acc (wipeE e2 vs) g2) e1 g
def blockOf {α : Type} (vs : List Nat) (m : M α) : M α := fun e g => if noOwn e vs then (match m (wipeE e vs) g with
    | .ok a e' g' => .ok a (backE e e' vs) g'
    | _ => .bad) else .bad
def mComp (p : Pat) (vs : List Nat) (mi : M (List PyData)) (mt : M Bool) (me : M PyData) : M EV :=
  mi.bind fun xs => (blockOf vs (loopC p vs mt me xs [])).bind fun ys => M.pure (.fr (.list ys))
def mYes : M Bool := M.pure true
structure DTs (X : Cx) (C : DCx) (es : List Expr) (m : M Bool) : Prop where
  run : C.K = X.K → ∃ t, PTs X es t ∧ SimT C t m
theorem dts_nil {X : Cx} {C : DCx} : DTs X C [] mYes := ⟨fun _ => ⟨_, pts_nil, fun σ F H l env g Q R w => w F H l R .refl⟩⟩
theorem dts_one {X : Cx} {C : DCx} {e : Expr} {m : M Bool} (h : DT X C e m) : DTs X C [e] m := ⟨fun hK => let ⟨t, h1, s⟩ := h.run hK; ⟨_, pts_one h1, s⟩⟩
/-- within a block nothing is raised -/
abbrev DCx.calm (C : DCx) : DCx := { C with W := fun _ _ _ _ => False }
theorem Rel.calm {C : DCx} {σ : L2.St} {F H : Hp} {l : Loc} {env : Env'} {g : G} (R : Rel C σ F H l env g) : Rel C.calm σ F H l env g :=
  ⟨R.sub, R.len, R.dat, R.own, R.inj, R.iscr, R.isrc, R.src, R.old, R.oldd, R.f0, R.fo, R.lo, R.l0⟩
theorem Rel.uncalm {C : DCx} {σ : L2.St} {F H : Hp} {l : Loc} {env : Env'} {g : G} (R : Rel C.calm σ F H l env g) : Rel C σ F H l env g :=
  ⟨R.sub, R.len, R.dat, R.own, R.inj, R.iscr, R.isrc, R.src, R.old, R.oldd, R.f0, R.fo, R.lo, R.l0⟩
/-- the list that is made: tracked, no one's own -/
structure Made (C : DCx) (F H : Hp) (l : Loc) (O : Addr → Prop) (D : Addr) (acc : List PyData) : Prop where
  at_ : ∃ vs, H D = some (.lst vs) ∧ RepL C.K F vs acc
  nf : F D = none
  n0 : C.H0 D = none
  ns : ¬ SrcAt l D
  no : ¬ O D
theorem Made.up {C : DCx} {F H F' H' : Hp} {l l' : Loc} {O O' : Addr → Prop} {D : Addr} {acc : List PyData} (m : Made C F H l O D acc) (x : ExtO O F H l F' H' l' O') : Made C F' H' l' O' D acc := by
  obtain ⟨vs, h1, h2⟩ := m.at_
  refine ⟨⟨vs, x.hk _ _ h1 m.no m.ns, RepL.up x.fs _ _ h2⟩, ?_, m.n0, fun z => ?_, fun z => m.no (x.ow _ z)⟩
  · refine Classical.byContradiction fun z => ?_
    rcases x.gr _ z with q | q | q | ⟨⟨xs, q⟩, _⟩
    · exact q m.nf
    · rw [h1] at q; cases q
    · exact m.no q
    · rw [h1] at q; cases q
  · rcases x.ln _ z with q | q
    · exact m.ns q
    · rw [h1] at q; cases q
/-- an item more in it -/
theorem Rel.made {C : DCx} {σ : L2.St} {F H : Hp} {l : Loc} {env : Env'} {g : G} {D : Addr} {acc : List PyData} {vs : List V} {d : PyData} {v : V} (R : Rel C σ F H l env g) (m : Made C F H l (OwnAt σ env) D acc) (h : H D = some (.lst vs)) (rv : Rep C.K F v d) :
    Rel C σ F (upd H D (.lst (vs ++ [v]))) l env g ∧ Made C F (upd H D (.lst (vs ++ [v]))) l (OwnAt σ env) D (acc ++ [d]) ∧ ∀ {O : Addr → Prop} {F0 H0 : Hp} {l0 : Loc}, ExtO O F0 H0 l0 F H l (OwnAt σ env) → H0 D = none → ExtO O F0 H0 l0 F (upd H D (.lst (vs ++ [v]))) l (OwnAt σ env) := by
  obtain ⟨ws, h1, h2⟩ := m.at_
  rw [h] at h1
  cases h1
  have kp : ∀ b o, F b = some o → upd H D (.lst (vs ++ [v])) b = some o := fun b o e => by
    rw [upd_ne (ne_of_none e m.nf)]; exact R.sub _ _ e
  have nsrc : ∀ p, l = some p → p.1 ≠ D ∧ p.2 ≠ D := fun p e => ⟨fun z => m.ns ⟨p, e, .inl z.symm⟩, fun z => m.ns ⟨p, e, .inr z.symm⟩⟩
  refine ⟨⟨kp, R.len, R.dat, fun i x e => ?_, R.inj, R.iscr, R.isrc, ?_, fun a o e ns => ?_, fun a e => ?_, R.f0, R.fo, R.lo, R.l0⟩, ⟨⟨_, upd_same, h2.append (repL_cons.mpr ⟨_, _, rfl, rv, repL_nil.mpr rfl⟩)⟩, m.nf, m.n0, m.ns, m.no⟩, fun {O F0 H0 l0} x hn => ⟨x.fs, fun a e => ?_, fun a o e n1 n2 => ?_, x.gr, x.ow, x.ls, x.ln⟩⟩
  · obtain ⟨a, q1, q2, q3, q4, q5⟩ := R.own i x e
    have ha : a ≠ D := fun z => m.no ⟨i, x, e, by rw [← z]; exact q1⟩
    exact ⟨a, q1, q2.up (.refl _) fun o q => by rw [upd_ne ha]; exact q, q3, q4, q5⟩
  · have q := R.src
    cases l with
    | none => cases g with
      | none => trivial
      | some s => exact q.elim
    | some p => cases g with
      | none => exact q.elim
      | some s =>
        obtain ⟨g1, g2, g3, g4, g5⟩ := q
        obtain ⟨n1, n2⟩ := nsrc p rfl
        exact ⟨g1, by rw [upd_ne n1]; exact g2, by rw [upd_ne n2]; exact g3, g4, g5⟩
  · have ha : a ≠ D := fun z => by rw [z, m.n0] at e; cases e
    rw [upd_ne ha]; exact R.old a o e ns
  · by_cases ha : a = D
    · subst ha; rw [upd_same]; nofun
    · rw [upd_ne ha]; exact R.oldd a e
  · by_cases ha : a = D
    · subst ha; rw [upd_same]; nofun
    · rw [upd_ne ha]; exact x.hd a e
  · have ha : a ≠ D := fun z => by rw [z, hn] at e; cases e
    rw [upd_ne ha]; exact x.hk a o e n1 n2
theorem blockOf_wp {α : Type} {vs : List Nat} {m : M α} {e : Env'} {g : G} {K : α → Env' → G → Prop} {E : Str → PyData → Env' → G → Prop} (h : Wp (blockOf vs m e g) K E) : noOwn e vs = true ∧ Wp (m (wipeE e vs) g) (fun a e' g' => K a (backE e e' vs) g') (fun _ _ _ _ => False) := by
  unfold blockOf at h
  by_cases c : noOwn e vs = true
  · rw [if_pos c] at h
    refine ⟨c, ?_⟩
    cases q : m (wipeE e vs) g with
    | ok a e' g' => rw [q] at h; exact h
    | exc _ _ _ _ => rw [q] at h; exact h.elim
    | bad => rw [q] at h; exact h.elim
  · rw [if_neg c] at h
    exact h.elim
theorem wipe_in {σ : L2.St} {i : Nat} : ∀ {vs : List Nat}, i ∈ vs → i < σ.length → (wipe σ vs)[i]? = some none
  | v :: vs, h, hl => by
    by_cases e : v = i
    · subst e
      rw [wipe, List.getElem?_set_self (by rw [wipe_length]; exact hl)]
    · rw [wipe, get_set_ne e]
      rcases List.mem_cons.mp h with q | q
      · exact absurd q.symm e
      · exact wipe_in q hl
theorem wipe_off {σ σ2 : L2.St} {is vs : List Nat} (h : Off is (wipe σ vs) σ2) (hs : ∀ i ∈ is, i ∈ vs) : wipe σ2 vs = wipe σ vs := by
  refine List.ext_getElem? fun i => ?_
  by_cases hi : i ∈ vs
  · by_cases hl : i < σ.length
    · rw [wipe_in hi hl, wipe_in hi (by rw [h.1, wipe_length]; exact hl)]
    · rw [List.getElem?_eq_none (by rw [wipe_length, h.1, wipe_length]; omega), List.getElem?_eq_none (by rw [wipe_length]; omega)]
  · rw [wipe_out' hi, h.2 i fun z => hi (hs i z)]
theorem drop_get {α : Type} {xs : List α} {i : Nat} {d : α} (h : xs[i]? = some d) : xs.drop i = d :: xs.drop (i + 1) := by
  obtain ⟨h1, h2⟩ := List.getElem?_eq_some_iff.mp h
  rw [List.drop_eq_getElem_cons h1, h2]
theorem wp_iteR {α : Type} {c : Prop} [Decidable c] {r : R α} {K : α → Env' → G → Prop} {E : Str → PyData → Env' → G → Prop} (h : Wp (if c then r else .bad) K E) : c ∧ Wp r K E := by
  by_cases q : c
  · rw [if_pos q] at h; exact ⟨q, h⟩
  · rw [if_neg q] at h; exact h.elim
theorem ExtO.shrink {O O' : Addr → Prop} {F H : Hp} {l : Loc} (h : ∀ a, O' a → O a) : ExtO O F H l F H l O' :=
  ⟨fun _ _ e => e, fun _ e => e, fun _ _ e _ _ => e, fun _ e => .inl e, h, fun _ e => e, fun _ e => .inl e⟩
theorem simComp {C : DCx} {wi : TI} {g : TG} {tt : TT} {te : TE} {p : Pat} {vs : List Nat} {mi : M (List PyData)} {mt : M Bool} {me : M PyData} (hi : SimI C wi mi) (hg : SimG C.calm g p) (ht : SimT C.calm tt mt) (he : SimD C.calm te me) (hp : ∀ i ∈ p.idx, i ∈ vs) :
    SimE C (tLc wi g tt te vs) (mComp p vs mi mt me) := by
  intro σ F H l env gs Q Rl w
  refine hi σ F H l env gs _ Rl (Wp.mono (Wp.bind.mp w) (fun xs env1 g1 w J F1 H1 l1 R1 x1 W1 => ?_) fun _ _ _ _ w => w)
  intro D hD
  obtain ⟨no, w⟩ := blockOf_wp (Wp.bind.mp w)
  have nF : F1 D = none := none_sub R1.sub hD
  have n0 : C.H0 D = none := none_of_none R1.oldd hD
  have nS : ¬ SrcAt l1 D := fun z => by
    obtain ⟨o, ho⟩ := R1.src.srcH z
    rw [hD] at ho; cases ho
  have nO : ¬ OwnAt σ env1 D := fun z => by
    obtain ⟨_, _, _, o, ho⟩ := R1.ownF z
    rw [hD] at ho; cases ho
  have nw : New C.K F1 H1 F1 (upd H1 D (.lst [])) (V.ref D) (.fr (.list [])) :=
    ⟨.refl _, Same.upd hD, R1.sub.trans (Same.upd hD), fun _ e => .inl e, D, rfl, hD, nF, [], upd_same, repL_nil.mpr rfl⟩
  obtain ⟨R2, x2, _⟩ := R1.new nw
  let N : Nat → Hp → Prop := fun i H' => ∃ (F' : Hp) (l' : Loc) (e' : Env') (g' : G) (acc : List PyData), Rel C.calm (wipe σ vs) F' H' l' e' g' ∧ ExtO (OwnAt σ env1) F1 H1 l1 F' H' l' (OwnAt (wipe σ vs) e') ∧ Made C.calm F' H' l' (OwnAt (wipe σ vs) e') D acc ∧
    Wp (loopC p vs mt me (xs.drop i) acc e' g') (fun ys e'' g'' => KE C σ F H l env Q (.fr (.list ys)) (backE env1 e'' vs) g'') (fun _ _ _ _ => False)
  refine ⟨fun i m H' => m = xs.length - i ∧ i ≤ xs.length ∧ N i H', ⟨_, rfl, Nat.zero_le _, F1, l1, wipeE env1 vs, g1, [], (R2.wiped vs).calm, x2.conv (fun _ h => h) fun a h => h.wiped, ⟨⟨[], upd_same, repL_nil.mpr rfl⟩, nF, n0, nS, fun z => nO z.wiped⟩, w⟩, ?_⟩
  rintro i m H' ⟨rfl, hle, F', l', e', g', acc, R', x', mk, w⟩
  by_cases hlt : i < xs.length
  · refine .inr ⟨W1.go F' H' i x'.fs R'.sub hlt, fun H2 => N (i + 1) H2, fun H2 q => ⟨_, by omega, rfl, hlt, q⟩, fun x H2 y => ?_⟩
    obtain ⟨F2, d, hd, nw2⟩ := W1.yl F' H' i x H2 x'.fs R'.sub hlt y
    obtain ⟨R3, x3, r3⟩ := R'.new nw2
    rw [drop_get hd] at w
    replace w : Wp (match asg p d e' with
      | none => R.bad
      | some e1 => (mt.bind fun b => if b then me.bind fun y => fun e2 g2 => if acc.length < sizeLine then loopC p vs mt me (xs.drop (i + 1)) (acc ++ [y]) (wipeE e2 vs) g2 else .bad
          else fun e2 g2 => loopC p vs mt me (xs.drop (i + 1)) acc (wipeE e2 vs) g2) e1 g') _ _ := w
    cases ha : asg p d e' with
    | none => rw [ha] at w; exact w.elim
    | some e1 =>
      rw [ha] at w
      refine hg (wipe σ vs) F2 H2 l' e' e1 g' x d _ R3 r3 ha fun σ2 R4 off ow => ?_
      have hw := wipe_off off hp
      refine ⟨hw, ?_⟩
      have x4 : ExtO (OwnAt σ env1) F1 H1 l1 F2 H2 l' (OwnAt σ2 e1) := ExtO.trans (ExtO.trans x' x3) (ExtO.shrink ow)
      have mk4 : Made C.calm F2 H2 l' (OwnAt σ2 e1) D acc := mk.up (ExtO.trans x3 (ExtO.shrink ow))
      refine ht σ2 F2 H2 l' e1 g' _ R4 (Wp.mono (Wp.bind.mp w) (fun b e2 g2 w F3 H3 l3 R5 x5 => ?_) fun _ _ _ _ w => w.elim)
      have mk5 := mk4.up x5
      cases b with
      | false =>
        dsimp only at w ⊢
        rw [if_neg Bool.false_ne_true] at w ⊢
        exact ⟨F3, l3, wipeE e2 vs, g2, acc, by rw [← hw]; exact R5.wiped vs, by rw [← hw]; exact (x4.trans x5).conv (fun _ h => h) fun a h => (x4.trans x5).ow a h.wiped, ⟨mk5.at_, mk5.nf, mk5.n0, mk5.ns, fun z => mk5.no (by rw [← hw] at z; exact z.wiped)⟩, w⟩
      | true =>
        dsimp only at w ⊢
        rw [if_pos rfl] at w ⊢
        refine he σ2 F3 H3 l3 e2 g2 _ R5 (Wp.mono (Wp.bind.mp w) (fun y e3 g3 w v F4 H4 l4 R6 x6 rv => ?_) fun _ _ _ _ w => w.elim)
        have mk6 := mk5.up x6
        obtain ⟨ws, hD4, rl⟩ := mk6.at_
        have hz := wp_iteR w
        obtain ⟨R7, mk7, x7⟩ := R6.made mk6 hD4 rv
        have x8 := x7 (ExtO.trans x4 (ExtO.trans x5 x6)) hD
        refine ⟨ws, hD4, by rw [rl.length]; exact hz.1, F4, l4, wipeE e3 vs, g3, acc ++ [y], by rw [← hw]; exact R7.wiped vs, by rw [← hw]; exact x8.conv (fun _ h => h) fun a h => x8.ow a h.wiped, ⟨mk7.at_, mk7.nf, mk7.n0, mk7.ns, fun z => mk7.no (by rw [← hw] at z; exact z.wiped)⟩, hz.2⟩
  · have e : i = xs.length := by omega
    subst e
    refine .inl ⟨W1.st F' H' x'.fs R'.sub, ?_⟩
    rw [List.drop_length] at w
    obtain ⟨R9, x9⟩ := R1.back no R'.uncalm x'
    obtain ⟨ws, hD4, rl⟩ := mk.at_
    refine w (V.ref D) F' H' l' R9 (ExtO.trans x1 x9) ⟨D, rfl, ⟨ws, hD4, rl⟩, mk.nf, mk.n0, mk.ns, fun z => nO (x9.ow _ z)⟩ fun a e => ?_
    cases e
    exact none_of_none x1.hd hD
/-! the readings that the data tell by themselves: no context stands in them -/
def tOf (C : DCx) (m : M EV) : TE := fun σ H Q => ∃ F l env g, Rel C σ F H l env g ∧ Wp (m env g) (KE C σ F H l env Q) (KX C σ)
def tdOf (C : DCx) (m : M PyData) : TE := fun σ H Q => ∃ F l env g, Rel C σ F H l env g ∧ Wp (m env g) (KD C σ F H l env Q) (KX C σ)
def ttOf (C : DCx) (m : M Bool) : TT := fun σ H Q => ∃ F l env g, Rel C σ F H l env g ∧ Wp (m env g) (KT C σ F H l env Q) (KX C σ)
def gOf (C : DCx) (p : Pat) : TG := fun v σ H Q => ∃ F l env env' gs d, Rel C σ F H l env gs ∧ Rep C.K F v d ∧ asg p d env = some env' ∧ ∀ σ', Rel C σ' F H l env' gs → Off p.idx σ σ' → (∀ a, OwnAt σ' env' a → OwnAt σ env a) → Q σ' H
section
variable {X : Cx} {C : DCx} {e tg : Expr} {es : List Expr}
theorem DE.pe {m : M EV} (h : DE X C e m) (hK : C.K = X.K) : PE X e (tOf C m) := by
  obtain ⟨t, h1, s⟩ := h.run hK
  exact ⟨fun pins s1 σ H Q I ⟨F, l, env, g, R, w⟩ => h1.run pins s1 σ H Q I (s σ F H l env g Q R w)⟩
theorem DD.pe {m : M PyData} (h : DD X C e m) (hK : C.K = X.K) : PE X e (tdOf C m) := by
  obtain ⟨t, h1, s⟩ := h.run hK
  exact ⟨fun pins s1 σ H Q I ⟨F, l, env, g, R, w⟩ => h1.run pins s1 σ H Q I (s σ F H l env g Q R w)⟩
theorem DTs.pt {m : M Bool} (h : DTs X C es m) (hK : C.K = X.K) : PTs X es (ttOf C m) := by
  obtain ⟨t, h1, s⟩ := h.run hK
  exact ⟨fun pins s1 σ H Q I ⟨F, l, env, g, R, w⟩ => h1.run pins s1 σ H Q I (s σ F H l env g Q R w)⟩
theorem DG.pg {p : Pat} (h : DG X C tg p) (hK : C.K = X.K) : PG X tg (gOf C p) := by
  obtain ⟨t, h1, s⟩ := h.run hK
  exact ⟨fun pins s1 σ H v u Q I r ⟨F, l, env, env', gs, d, R, rd, ha, q⟩ => h1.run pins s1 σ H v u Q I r (s σ F H l env env' gs v d Q R rd ha q)⟩
theorem simG_of {p : Pat} : SimG C (gOf C p) p := fun _ _ _ _ _ _ _ _ _ _ R r a q => ⟨_, _, _, _, _, _, R, r, a, q⟩
theorem simT_of {m : M Bool} : SimT C (ttOf C m) m := fun _ _ _ _ _ _ _ R w => ⟨_, _, _, _, R, w⟩
theorem simD_of {m : M PyData} : SimD C (tdOf C m) m := fun _ _ _ _ _ _ _ R w => ⟨_, _, _, _, R, w⟩
theorem simE_of {m : M EV} : SimE C (tOf C m) m := fun _ _ _ _ _ _ _ R w => ⟨_, _, _, _, R, w⟩
end
theorem de_comp {X : Cx} {C : DCx} {elt tg iter : Expr} {ifs : List Expr} {scope : Scope} {own : List (Str × Nat)} {pos : Pos} {p : Pat} {mi : M (List PyData)} {mt : M Bool} {me : M PyData} (hc : X.calm = true) (hN : X.N.Nodup) (hi : DI X C tg iter mi) (ok : BlkOk X.N X.env.scope scope own)
    (hg : ∀ (s : Shared) (H : Hp) (A : Addr) (cl : List (Str × Addr)) (fp : List Addr), DG (X.blk s H scope (compEnvC scope cl A X.env) fp) C.calm tg p)
    (ht : ∀ (s : Shared) (H : Hp) (A : Addr) (cl : List (Str × Addr)) (fp : List Addr), DTs (X.blk s H scope (compEnvC scope cl A X.env) fp) C.calm ifs mt)
    (he : ∀ (s : Shared) (H : Hp) (A : Addr) (cl : List (Str × Addr)) (fp : List Addr), DD (X.blk s H scope (compEnvC scope cl A X.env) fp) C.calm elt me)
    (hp : (p.idx.all fun i => decide (i ∈ own.map (·.2))) = true) (hs : ∀ x, foldedSetIterable iter X.env x = pure x := by intro _; rfl) :
    DE X C (.ListComp elt [⟨tg, iter, ifs, 0⟩] scope pos) (mComp p (own.map (·.2)) mi mt me) := by
  refine ⟨fun hK => ?_⟩
  obtain ⟨wi, h1, s1⟩ := hi.run hK
  refine ⟨_, pe_lc hc hN h1 ok (fun s H A cl fp => (hg s H A cl fp).pg hK) (fun s H A cl fp => (ht s H A cl fp).pt hK) (fun s H A cl fp => (he s H A cl fp).pe hK) hs, simComp s1 simG_of simT_of simD_of fun i hi => ?_⟩
  exact of_decide_eq_true (List.all_eq_true.mp hp i hi)
end DL
namespace DL
open PySem L2 PySem.W PySem.Calls PySem.SeqAt PyProof.Rows
/-! ### tuples, () among them, can be sorted -/
def isTup1 : PyData → Bool
  | .tuple (_ :: _) => true
  | _ => false
section
variable {A : Around} {s : Shared}
theorem call_tuple_lt {prog : Program} {w : World} {E : Value → Shared → Prop} {Q : Value → Shared → Prop} {l b : Addr} {items items2 : Array Value} {e r : Nat → Bool} (hl : s.heap.IsTuple l items) (hb : s.heap.IsTuple b items2)
    (he : ∀ j (h1 : j < items.size) (h2 : j < items2.size), EqAt A.in1 s items[j] items2[j] (e j)) (hr : ∀ j (h1 : j < items.size) (h2 : j < items2.size), e j = false → RcLt A.in1 s items[j] items2[j] (r j))
    (h : Q (.bool (firstLt e r (decide (items.size < items2.size)) (List.range (min items.size items2.size)))) s) : wpAny (model prog w) A (call (.builtin "tuple.__lt__") [.ref l, .ref b]) Q E s := by
  obtain ⟨⟨cls, dd, data, sl⟩, ho, hc, n, hd⟩ := id hl
  obtain ⟨⟨cls2, dd2, data2, sl2⟩, ho2, hc2, n2, hd2⟩ := id hb
  simp only at hc hd hc2 hd2
  subst hc hd hc2 hd2
  exact call_meets F.slot_tuple_lt ⟨_, ho, rfl⟩ F.entry_tuple_lt (F.args_tuple_lt_2 _ _) (tuple_ltAt l b items items2 n n2 dd dd2 sl sl2 e r) ⟨ho, ho2, he, hr, h⟩
theorem oneLt_tup {prog : Program} {w : World} {E : Value → Shared → Prop} {xs ys : List PyData} {a b : Value} {as bs : List Addr} {Q : Bool → Shared → Prop} (ra : Reads s.heap a (.tuple xs) as) (rb : Reads s.heap b (.tuple ys) bs) (h : alike (.tuple xs) (.tuple ys) = true)
    (hu : A.units + min (PyData.tuple xs).depth (PyData.tuple ys).depth < cLine) (hq : Q (dataLt (.tuple xs) (.tuple ys)) s) : wpAny (model prog w) A (oneLt' true a b) Q E s := by
  have hal : alikeAll xs ys = true := by simpa [alike] using h
  cases ra with
  | @tuple l o vs n _ as₁ h1 h2 h3 h4 =>
    cases rb with
    | @tuple l' o' vs' n' _ bs₁ k1 k2 k3 k4 =>
      have n1 : vs.size = xs.length := by simpa using SeqAt.ReadsAll.length _ _ _ h4
      have n2 : vs'.size = ys.length := by simpa using SeqAt.ReadsAll.length _ _ _ k4
      rw [dataLt_tuple, ← firstLt_toks xs ys hal, ← n1, ← n2] at hq
      rw [oneLt'_eq]
      simp only [if_true]
      refine wpAny_bind (wpAny_cRoomFor (room_here hu) ?_)
      refine wpAny_bind (wpAny_callSpecialIfBound?_slot (T := "tuple") ⟨_, h1, h2⟩ F.slot_tuple_lt (call_tuple_lt (e := pairEq xs ys) (r := fun j => dataLt (xs.getD j .none) (ys.getD j .none)) ⟨_, h1, h2, _, h3⟩ ⟨_, k1, k2, _, k3⟩ (fun j j1 j2 => ?_) (fun j j1 j2 hj => ?_) ?_))
      · have := eqAt_alikeAll xs ys A.in1 s vs.toList vs'.toList _ _ h4 k4 hal (room_in hu) j (by simpa using j1) (by simpa using j2)
        simpa using this
      · have := rcLt_alikeAll xs ys A.in1 s vs.toList vs'.toList _ _ h4 k4 hal (room_in hu) j (by simpa using j1) (by simpa using j2) hj
        simpa using this
      · exact wpAny_truthy_bool hq
theorem tup_firsts {M : Model} {E : Value → Shared → Prop} : ∀ {vs : List Value} {ds : List PyData} {Q : List (Option Value) → Shared → Prop}, EachIs (fun v d => ∃ as, Reads s.heap v d as) vs ds → (∀ d ∈ ds, ∃ xs, d = .tuple xs) →
    (∀ bs : List (Option Value), bs.map Option.isSome = ds.map isTup1 → Q bs s) → wpAny M A (vs.mapM firstOfTuple') Q E s
  | _, _, _, .nil, _, h => by rw [List.mapM_nil]; exact wpAny_pure (h [] rfl)
  | _, _, Q, .cons (b := d) ⟨as, r⟩ t, ht, h => by
    obtain ⟨ys, rfl⟩ := ht d (by simp)
    cases r with
    | @tuple a o xs n _ _ ho hc hd hr =>
      rw [List.mapM_cons]
      refine wpAny_bind ?_
      rw [kas_first_eq]
      refine wpAny_bind (Looks.here (show Looks M s.heap (typeOf (.ref a)) o.cls from (Looks.ld ho).andThen .now) ?_)
      rw [hc, if_neg (by first | decide | simp)]
      refine wpAny_bind (listItems_at ho hd (wpAny_pure ?_))
      refine wpAny_bind (tup_firsts (Q := fun bs s' => wpAny M A (pure (xs[0]? :: bs)) Q E s') t (fun d hd => ht d (by simp [hd])) fun bs hb => wpAny_pure (h _ ?_))
      rw [List.map_cons, List.map_cons, hb]
      refine congrArg (· :: _) ?_
      have hn : xs.size = ys.length := by simpa using SeqAt.ReadsAll.length _ _ _ hr
      cases ys with
      | nil =>
        have : xs = #[] := Array.size_eq_zero_iff.mp hn
        subst this
        rfl
      | cons y ys =>
        have h0 : 0 < xs.size := by rw [hn]; exact Nat.succ_pos _
        rw [Array.getElem?_eq_getElem h0]
        rfl
theorem SortsAt.tups {prog : Program} {w : World} {vs : List Value} {ds : List PyData} (e : EachIs (fun v d => ∃ as, Reads s.heap v d as) vs ds) (hal : AllAlike ds) (ht : ∀ d ∈ ds, ∃ xs, d = .tuple xs) (hu : ∀ d, d ∈ ds → A.units + d.depth < cLine) : SortsAt prog w A s (dataKind s.heap ds) vs := by
  by_cases hone : ∀ d ∈ ds, ∃ x r, d = PyData.tuple (x :: r)
  · exact SortsAt.data e hal (.inl hone) hu
  have room : ∀ {d d' : PyData}, d ∈ ds → A.units + min d.depth d'.depth < cLine := fun {d d'} hd => Nat.lt_of_le_of_lt (Nat.add_le_add_left (Nat.min_le_left _ _) _) (hu d hd)
  have hnot : ds.all isTup1 = false := by
    rw [Bool.eq_false_iff]
    intro h
    refine hone fun d hd => ?_
    have h1 := List.all_eq_true.mp h d hd
    obtain ⟨xs, rfl⟩ := ht d hd
    cases xs with
    | nil => cases h1
    | cons x xs => exact ⟨x, xs, rfl⟩
  have keys : ∀ v, v ∈ vs → ∃ a, (dataKind s.heap ds).keyOf v = some a := fun v hv => by
    obtain ⟨d, hd, as, r⟩ := e.left v hv
    exact ⟨_, dataKind_some hal hd r⟩
  by_cases hf : ∃ d ds', ds = d :: ds' ∧ isTup1 d = true
  · refine ⟨keys, general', ?_, fun h2 E Q hq => ?_⟩
    · intro E x y a b Q ha hb hq
      obtain ⟨d, as, hd, ra, rfl⟩ := dataKind_inv ha
      obtain ⟨d', as', hd', rb, rfl⟩ := dataKind_inv hb
      show wpAny (model prog w) A (oneLt' false x y) Q E s
      obtain ⟨xs, rfl⟩ := ht d hd
      exact oneLt_alike (fun h => by cases h) ra rb (hal _ hd d' hd') (fun h => by cases h) (room hd) hq
    · rw [kat_kind_eq, List.mapM_toArray, map_eq_pure_bind]
      refine wpAny_bind (wpAny_bind (tup_firsts e ht fun bs hb => wpAny_pure ?_))
      have hall : (bs.toArray.all fun x => x.isSome) = false := by
        rw [List.all_toArray]
        have := congrArg (fun l => l.all id) hb
        simp only [List.all_map] at this
        rw [show (bs.all fun x => x.isSome) = bs.all (id ∘ Option.isSome) from rfl, this]
        exact hnot
      rw [if_neg (by rw [hall]; simp)]
      obtain ⟨d, ds', rfl, hd⟩ := hf
      cases bs with
      | nil => cases hb
      | cons b bs =>
        rw [List.map_cons, List.map_cons] at hb
        have hb1 : b.isSome = true := by rw [(List.cons.inj hb).1]; exact hd
        rw [if_pos (by simpa using hb1)]
        exact wpAny_pure hq
  · refine ⟨keys, oneType', ?_, fun h2 E Q hq => ?_⟩
    · intro E x y a b Q ha hb hq
      obtain ⟨d, as, hd, ra, rfl⟩ := dataKind_inv ha
      obtain ⟨d', as', hd', rb, rfl⟩ := dataKind_inv hb
      rw [keyLt'_oneType]
      obtain ⟨xs, rfl⟩ := ht d hd
      obtain ⟨ys, rfl⟩ := ht d' hd'
      exact oneLt_tup ra rb (hal _ hd _ hd') (room hd) hq
    · rw [kat_kind_eq, List.mapM_toArray, map_eq_pure_bind]
      refine wpAny_bind (wpAny_bind (tup_firsts e ht fun bs hb => wpAny_pure ?_))
      have hall : (bs.toArray.all fun x => x.isSome) = false := by
        rw [List.all_toArray]
        have := congrArg (fun l => l.all id) hb
        simp only [List.all_map] at this
        rw [show (bs.all fun x => x.isSome) = bs.all (id ∘ Option.isSome) from rfl, this]
        exact hnot
      rw [if_neg (by rw [hall]; simp)]
      cases vs with
      | nil => exact absurd h2 (by simp)
      | cons v vs =>
      cases e with
      | @cons _ d _ ds' e1 e2 =>
      cases bs with
      | nil => cases hb
      | cons b bs =>
        rw [List.map_cons, List.map_cons] at hb
        have hb1 : b.isSome = false := by
          rw [(List.cons.inj hb).1, Bool.eq_false_iff]
          exact fun h => hf ⟨d, ds', rfl, h⟩
        have hb2 : b = none := by cases b with | none => rfl | some _ => cases hb1
        subst hb2
        rw [if_neg (by simp)]
        rw [oneTypeOnly'_eq, List.mapM_toArray, map_eq_pure_bind]
        have hT : ∀ u ∈ v :: vs, Looks (model prog w) s.heap (typeOf u) (Value.type "tuple") := fun u hu' => by
          obtain ⟨d', hd', as, r⟩ := (EachIs.cons e1 e2).left u hu'
          obtain ⟨xs, rfl⟩ := ht d' hd'
          exact looks_reads r
        refine wpAny_bind (wpAny_bind (wpAny_bind (kas_mapM (r := Value.type "tuple") _ (fun v hv Q' hq => (hT v hv).here hq) (wpAny_pure ?_))))
        have hall2 : ((List.map (fun _ => Value.type "tuple") (v :: vs)).toArray.all fun x => x == Value.type "tuple") = true := by
          simp only [List.all_toArray, List.all_map, List.all_eq_true]
          intro _ _
          rfl
        have h0 : (List.map (fun _ => Value.type "tuple") (v :: vs)).toArray[0]? = some (Value.type "tuple") := by simp
        rw [h0]
        simp only [hall2, if_true]
        exact wpAny_pure (wpAny_pure hq)
end
end DL
namespace DL
open PySem L2
/-! ### sorted of a list or a tuple of data -/
section
open PySem.W PyProof.Rows
variable {prog : Program} {w : World} {A : Around} {E : Value → Shared → Prop} {s : Shared}
/-- a tuple's items, collected -/
theorem collectTuple {l : Addr} {vs : List Value} {Q : List Value → Shared → Prop} (ht : s.heap.IsTuple l vs.toArray) (hz : vs.length ≤ sizeLine)
    (h : Q vs { s with heap := (s.heap.push (seqObj "list" #[] 0)).update s.heap.objs.size (Obj.mapSeq (· ++ vs.toArray)) }) : wpAny (model prog w) A (collect (.ref l)) Q E s := by
  obtain ⟨o, ho, hc, n, hd⟩ := id ht
  have hn : (s.heap.push (seqObj "list" #[] 0)).get? s.heap.objs.size = some (seqObj "list" #[] 0) := Heap.get?_push_size _ rfl
  have ho' : (s.heap.push (seqObj "list" #[] 0)).get? l = some o := Heap.get?_push_of_some _ ho
  unfold collect
  refine wpAny_bind (wpAny_runValue (codeAny_builtin entry_proto_collect' ?_))
  change wpAny _ _ (do again (.builtin "list.__iadd__" ⟨[← newList [], .ref l], []⟩)) _ _ s
  refine wpAny_bind (wpAny_newList (wpAny_pure ⟨Code.quiet_builtin _ (by decide +kernel), codeAny_builtin entry_list_iadd' ?_⟩))
  change wpAny _ _ (Builtin.List.listExtendWith (.ref s.heap.objs.size) (.ref l) (.ref s.heap.objs.size)) _ _ { s with heap := s.heap.push (seqObj "list" #[] 0) }
  unfold Builtin.List.listExtendWith
  refine wpAny_bind (wpAny_typeOf (T := "tuple") ⟨o, ho', hc⟩ ?_)
  rw [if_pos (by simp)]
  refine wpAny_bind (listItems_at ho' hd ?_)
  refine wpAny_bind (listItems_at (xs := #[]) (n := 0) hn rfl ?_)
  rw [if_neg (by simp)]
  refine wpAny_bind (listUpdate_at (xs := #[]) (n := 0) hn rfl ?_ (Nat.zero_le _) (by show (#[] ++ vs.toArray).size ≤ sizeLine + 1; simp only [Array.size_append, List.size_toArray, List.length_nil]; omega))
  refine wpAny_pure ?_
  change wpAny (model prog w) A (do
      let o ← load s.heap.objs.size
      match o.data with
      | .seq xs _ => pure xs.toList
      | _ => unsupported "internal:collect") Q E { s with heap := (s.heap.push (seqObj "list" #[] 0)).update s.heap.objs.size (Obj.mapSeq (· ++ vs.toArray)) }
  refine wpAny_bind (wpAny_load (get?_update_seq hn _) ?_)
  change wpAny _ _ (pure ((#[] : Array Value) ++ vs.toArray).toList) Q E _
  rw [show ((#[] : Array Value) ++ vs.toArray).toList = vs by simp]
  exact wpAny_pure h
theorem sortedCol {κ : PyProof.Rows.KeyKind} {l : Addr} {vs : List Value} {Q : Value → Shared → Prop} (hz : vs.length ≤ sizeLine)
    (hcol : ∀ (A' : Around) (E' : Value → Shared → Prop) (Q' : List Value → Shared → Prop), Q' vs { s with heap := (s.heap.push (seqObj "list" #[] 0)).update s.heap.objs.size (Obj.mapSeq (· ++ vs.toArray)) } → wpAny (model prog w) A' (collect (.ref l)) Q' E' s)
    (S : SortsAt prog w A.in1.in1 { s with heap := sortingHeap (copyHeap s.heap vs) (s.heap.objs.size + 1) vs } κ vs) (h : Q (.ref (s.heap.objs.size + 1)) { s with heap := sortedAll s.heap vs (sortVals κ false vs vs).toArray }) :
    wpAny (model prog w) A (call (.builtin "sorted") [.ref l]) Q E s := by
  refine call_function_entry_kw kind_sorted plain_sorted entry_sorted (args_sorted1 _) ?_
  unfold Builtin.«sorted»
  refine wpAny_bind (m := checkCount "sorted" 1 1 _) (wpAny_pure ?_)
  refine wpAny_bind (hcol _ _ _ ?_)
  refine wpAny_bind (wpAny_newList ?_ hz)
  have sz : ((s.heap.push (seqObj "list" #[] 0)).update s.heap.objs.size (Obj.mapSeq (· ++ vs.toArray))).objs.size = s.heap.objs.size + 1 := by
    rw [Heap.size_update, size_push']
  change wpAny _ _ _ _ _ { s with heap := copyHeap s.heap vs }
  rw [sz]
  refine wpAny_bind (wpAny_holding (wpAny_call_entry_kw slot_list_sort ⟨_, copyHeap_at s.heap vs, rfl⟩ entry_list_sort ?body (args_list_sort _)))
  case body =>
    change wpAny (model prog w) A.in1.in1 (Builtin.«list.sort» ⟨[.ref (s.heap.objs.size + 1)], []⟩) _ _ _
    refine list_sort_vals (s := { s with heap := copyHeap s.heap vs }) (copyHeap_at s.heap vs) S hz ?_
    exact ⟨_, rfl, wpAny_pure ⟨_, rfl, h⟩⟩
end
def sortD (ds : List PyData) : List PyData := ds.mergeSort (PySem.W.dataLe false id)
def isTup : PyData → Bool
  | .tuple _ => true
  | _ => false
def plainKey : PyData → Bool
  | .none => false
  | .tuple _ => false
  | _ => true
def sortOk (ds : List PyData) : Bool := (ds.all fun d => ds.all fun d' => PySem.W.alike d d') && (ds.all isTup || ds.all plainKey) && ds.all fun d => decide (d.depth ≤ 50)
theorem sortOk.alike {ds : List PyData} (h : sortOk ds = true) : PySem.W.AllAlike ds := by
  unfold sortOk at h
  rw [Bool.and_eq_true, Bool.and_eq_true] at h
  intro d hd d' hd'
  exact List.all_eq_true.mp (List.all_eq_true.mp h.1.1 d hd) d' hd'
theorem sortOk.sortable {ds : List PyData} (h : sortOk ds = true) : (∀ d ∈ ds, ∃ xs, d = PyData.tuple xs) ∨ PySem.W.Sortable ds := by
  unfold sortOk at h
  rw [Bool.and_eq_true, Bool.and_eq_true, Bool.or_eq_true] at h
  rcases h.1.2 with q | q
  · refine .inl fun d hd => ?_
    have := List.all_eq_true.mp q d hd
    unfold isTup at this
    split at this
    · exact ⟨_, rfl⟩
    · cases this
  · refine .inr (.inr fun d hd => ?_)
    have := List.all_eq_true.mp q d hd
    unfold plainKey at this
    split at this
    · cases this
    · cases this
    · rename_i h1 h2
      exact ⟨h1, h2⟩
theorem sortsAt_ok {prog : Program} {w : World} {A : Around} {s : Shared} {vs : List Value} {ds : List PyData} (e : PySem.W.EachIs (fun v d => ∃ as, Reads s.heap v d as) vs ds) (h : sortOk ds = true) (hu : ∀ d, d ∈ ds → A.units + d.depth < cLine) : PySem.W.SortsAt prog w A s (PySem.W.dataKind s.heap ds) vs := by
  rcases sortOk.sortable h with q | q
  · exact SortsAt.tups e (sortOk.alike h) q hu
  · exact PySem.W.SortsAt.data e (sortOk.alike h) q hu
theorem sortOk.depth {ds : List PyData} (h : sortOk ds = true) : ∀ d ∈ ds, d.depth ≤ 50 := by
  unfold sortOk at h
  rw [Bool.and_eq_true, Bool.and_eq_true] at h
  exact fun d hd => of_decide_eq_true (List.all_eq_true.mp h.2 d hd)
theorem repL_zip {K : PySem.W.Frag} {F : Hp} {zs : List (V × PyData)} (h : ∀ z ∈ zs, Rep K F z.1 z.2) : RepL K F (zs.map (·.1)) (zs.map (·.2)) := by
  induction zs with
  | nil => exact repL_nil.mpr rfl
  | cons z zs ih => exact repL_cons.mpr ⟨_, _, rfl, h z (by simp), ih fun y hy => h y (by simp [hy])⟩
theorem each_vals {zs : List (V × PyData)} : ∀ {us : List Value}, PySem.W.EachIs (fun u (z : V × PyData) => RelV z.1 u) us zs → Vals (zs.map (·.1)) us := by
  induction zs with
  | nil => intro us h; cases h; exact .nil
  | cons z zs ih =>
    intro us h
    cases h with
    | cons h1 h2 => exact .cons h1 (ih h2)
theorem vals_each {zs : List (V × PyData)} : ∀ {us : List Value}, Vals (zs.map (·.1)) us → PySem.W.EachIs (fun u (z : V × PyData) => RelV z.1 u) us zs := by
  induction zs with
  | nil => intro us h; cases h; exact .nil
  | cons z zs ih =>
    intro us h
    cases h with
    | cons h1 h2 => exact .cons h1 (ih h2)
theorem each_and {α β : Type} {P Q : α → β → Prop} : ∀ {as : List α} {bs : List β}, PySem.W.EachIs P as bs → (∀ a b, a ∈ as → b ∈ bs → P a b → Q a b) → PySem.W.EachIs Q as bs
  | _, _, .nil, _ => .nil
  | _, _, .cons h t, f => .cons (f _ _ (by simp) (by simp) h) (each_and t fun a b ha hb => f a b (by simp [ha]) (by simp [hb]))
def pySorted : List PyData → Option RV
  | [.list ds] => if sortOk ds then some (.fr (.list (sortD ds))) else none
  | [.tuple ds] => if sortOk ds then some (.fr (.list (sortD ds))) else none
  | _ => none
section
variable {X : Cx}
theorem sorted_core {pins : List (Addr × Obj)} {s : Shared} {σ : L2.St} {F H : Hp} {Q : VK} {l : Addr} {its : List Value} {vs : List V} {ds : List PyData} (hu : X.A.units + 64 < cLine) (I : Inv X pins σ H s) (hs : Same F H) (rv : Vals vs its) (rl : RepL X.K F vs ds)
    (hz : vs.length ≤ sizeLine) (ok : sortOk ds = true)
    (hcol : ∀ (A' : Around) (E' : Value → Shared → Prop) (Q' : List Value → Shared → Prop), Q' its { s with heap := (s.heap.push (PyProof.Rows.seqObj "list" #[] 0)).update s.heap.objs.size (Obj.mapSeq (· ++ its.toArray)) } → wpAny (model X.prog X.w) A' (collect (.ref l)) Q' E' s)
    (hq : ResK X.K F H Q (.fr (.list (sortD ds)))) : wpAny (model X.prog X.w) X.A (call (.builtin "sorted") [.ref l]) (EP X pins σ Q) X.xe s := by
  have hl := rl.length
  have hzip : ∀ z ∈ vs.zip ds, Rep X.K F z.1 z.2 := by
    clear rv hz hcol hq ok I hs
    induction ds generalizing vs with
    | nil => intro z hz; simp at hz
    | cons d ds ih =>
      obtain ⟨v, r, rfl, r1, r2⟩ := repL_cons.mp rl
      intro z hz
      rw [List.zip_cons_cons] at hz
      rcases List.mem_cons.mp hz with q | q
      · subst q; exact r1
      · exact ih r2 (by simpa using hl) z q
  have e1 : (vs.zip ds).map (·.1) = vs := List.map_fst_zip (Nat.le_of_eq hl)
  have e2 : (vs.zip ds).map (·.2) = ds := List.map_snd_zip (Nat.le_of_eq hl.symm)
  have each : PySem.W.EachIs (fun u (z : V × PyData) => RelV z.1 u ∧ Rep X.K F z.1 z.2) its (vs.zip ds) := each_and (vals_each (by rw [e1]; exact rv)) fun a b _ hb h => ⟨h, hzip b hb⟩
  have er : PySem.W.EachIs (fun u (z : V × PyData) => ∃ as, Reads s.heap u z.2 as) its (vs.zip ds) := each.mono fun u z h => Rep.reads I hs z.2 z.1 u h.2 h.1
  have er' : PySem.W.EachIs (fun v (b : V × PyData) => ∃ as, Reads (PySem.W.sortingHeap (PySem.W.copyHeap s.heap its) (s.heap.objs.size + 1) its) v b.2 as) its (vs.zip ds) := er.mono fun _ _ ⟨as, r⟩ => ⟨as, PyProof.Rows.Reads.keeps (fun _ _ => PySem.W.sorting_copy_old) r⟩
  refine sortedCol (by rw [← rv.length]; exact hz) hcol (sortsAt_ok (s := { s with heap := PySem.W.sortingHeap (PySem.W.copyHeap s.heap its) (s.heap.objs.size + 1) its }) (ds := ds) ?_ ok fun d hd => ?_) ?_
  · have := PySem.W.each_map (R := fun v d => ∃ as, Reads (PySem.W.sortingHeap (PySem.W.copyHeap s.heap its) (s.heap.objs.size + 1) its) v d as) (fun z : V × PyData => z.2) er'
    rw [e2] at this
    exact this
  · have := sortOk.depth ok d hd
    show X.A.in1.in1.units + d.depth < cLine
    show X.A.units + 1 + 1 + d.depth < cLine
    omega
  · have hd := PySem.W.sortVals_data (h' := PySem.W.sortingHeap (PySem.W.copyHeap s.heap its) (s.heap.objs.size + 1) its) (enc := fun z : V × PyData => z.2) false each er' (by rw [e2]; exact (sortOk.alike ok))
    rw [e2] at hd
    have hm : ((vs.zip ds).mergeSort (PySem.W.dataLe false fun z : V × PyData => z.2)).map (·.2) = sortD ds := by
      have := PySem.W.sort_maps (r := PySem.W.dataLe false fun z : V × PyData => z.2) (s := PySem.W.dataLe false (id : PyData → PyData)) (fun z : V × PyData => z.2) (l := vs.zip ds) fun a _ b _ => rfl
      rw [this, e2]
      rfl
    obtain ⟨ep, he⟩ := PyProof.Rows.sortedAll_at s.heap its (PySem.W.sortVals (PySem.W.dataKind (PySem.W.sortingHeap (PySem.W.copyHeap s.heap its) (s.heap.objs.size + 1) its) ds) false its its).toArray
    have hv : Vals (((vs.zip ds).mergeSort (PySem.W.dataLe false fun z : V × PyData => z.2)).map (·.1)) (PySem.W.sortVals (PySem.W.dataKind (PySem.W.sortingHeap (PySem.W.copyHeap s.heap its) (s.heap.objs.size + 1) its) ds) false its its) := each_vals (hd.mono fun _ _ h => h.1)
    have hr : RepL X.K F (((vs.zip ds).mergeSort (PySem.W.dataLe false fun z : V × PyData => z.2)).map (·.1)) (sortD ds) := by
      rw [← hm]
      exact repL_zip fun z hz => hzip z ((List.mergeSort_perm _ _).mem_iff.mp hz)
    have hlen : (((vs.zip ds).mergeSort (PySem.W.dataLe false fun z : V × PyData => z.2)).map (·.1)).length ≤ sizeLine := by
      rw [List.length_map, (List.mergeSort_perm _ _).length_eq, List.length_zip, hl, Nat.min_self, ← hl]
      exact hz
    exact ⟨.ref _, upd H (s.heap.objs.size + 1) (.lst _), I.laid (t' := s.toks) (fun _ _ => PyProof.Rows.sortedAll_old) (Nat.le_succ _) ⟨hlen, _, ep, hv, he⟩, rfl, hq.lst hs (I.hok.fresh (Nat.le_succ _)) hr⟩
theorem calld_sorted (hu : X.A.units + 64 < cLine) : CallD X (.builtin "sorted") pySorted := by
  refine calld_of ?_
  intro pins s σ H xs us Q I r h
  obtain ⟨F, ds, ev, hs, hb, hg, hq⟩ := h
  unfold pySorted at hg
  split at hg
  · rename_i es
    obtain ⟨ok, rfl⟩ := if_some hg
    cases hb with
    | cons b1 b2 =>
      cases b2
      obtain ⟨a, vs, rfl, q, rl⟩ := b1.seq hs
      rw [Vals.ref1 r]
      obtain ⟨its, rv, p, hz⟩ := I.list (SqL.of q)
      exact sorted_core hu I hs rv rl hz ok (fun A' E' Q' h => PyProof.Rows.collect_list p.isList h (by rw [← rv.length]; exact hz)) hq
  · rename_i es
    obtain ⟨ok, rfl⟩ := if_some hg
    cases hb with
    | cons b1 b2 =>
      cases b2
      obtain ⟨a, vs, rfl, q, rl⟩ := b1.tup hs
      rw [Vals.ref1 r]
      obtain ⟨its, rv, p, hz⟩ := I.tuple q
      exact sorted_core hu I hs rv rl hz ok (fun A' E' Q' h => collectTuple (show s.heap.IsTuple a its.toArray from p) (by rw [← rv.length]; exact hz) h) hq
  · cases hg
end
end DL
namespace DL
open PySem L2
/-! ### built-ins by data -/
def oneI (i : Int) : RV := .d (.int i)
def pyLen : List PyData → Option RV
  | [.list ds] => some (oneI ds.length)
  | [.tuple ds] => some (oneI ds.length)
  | [.str z] => if z.length ≤ sizeLine then some (oneI z.length) else none
  | _ => none
def pyAbs : List PyData → Option RV
  | [.int i] => some (oneI (if i < 0 then -i else i))
  | _ => none
def pyInt : List PyData → Option RV
  | [.int i] => some (oneI i)
  | [.bool b] => some (oneI (if b then 1 else 0))
  | _ => none
def pyBool : List PyData → Option RV
  | [.int i] => some (.d (.bool (i != 0)))
  | [.bool b] => some (.d (.bool b))
  | _ => none
def pyMax2 : List PyData → Option RV
  | [.int i, .int j] => some (oneI (if j > i then j else i))
  | _ => none
def pyMin2 : List PyData → Option RV
  | [.int i, .int j] => some (oneI (if j < i then j else i))
  | _ => none
def pyListOf : List PyData → Option RV
  | [.list ds] => some (.fr (.list ds))
  | [.tuple ds] => some (.fr (.list ds))
  | _ => none
def pyTupOf : List PyData → Option RV
  | [.list ds] => some (.d (.tuple ds))
  | [.tuple ds] => some (.d (.tuple ds))
  | _ => none
def boolsOf : List PyData → Option (List Bool)
  | [] => some []
  | .bool b :: r => (boolsOf r).map (b :: ·)
  | _ :: _ => none
def intsOf : List PyData → Option (List Int)
  | [] => some []
  | .int b :: r => (intsOf r).map (b :: ·)
  | _ :: _ => none
theorem boolsOf_eq : ∀ {ds : List PyData} {bs : List Bool}, boolsOf ds = some bs → ds = bs.map .bool
  | [], _, h => by cases h; rfl
  | d :: ds, bs, h => by
    cases d with
    | bool b =>
      cases q : boolsOf ds with
      | none => simp [boolsOf, q] at h
      | some es =>
        simp [boolsOf, q] at h
        subst h
        rw [boolsOf_eq q]; rfl
    | _ => simp [boolsOf] at h
theorem intsOf_eq : ∀ {ds : List PyData} {bs : List Int}, intsOf ds = some bs → ds = bs.map .int
  | [], _, h => by cases h; rfl
  | d :: ds, bs, h => by
    cases d with
    | int b =>
      cases q : intsOf ds with
      | none => simp [intsOf, q] at h
      | some es =>
        simp [intsOf, q] at h
        subst h
        rw [intsOf_eq q]; rfl
    | _ => simp [intsOf] at h
theorem intsOf_map : ∀ ns : List Int, intsOf (ns.map .int) = some ns
  | [] => rfl
  | n :: ns => by simp [intsOf, intsOf_map ns]
theorem boolsOf_map : ∀ ns : List Bool, boolsOf (ns.map .bool) = some ns
  | [] => rfl
  | n :: ns => by simp [boolsOf, boolsOf_map ns]
theorem repL_bools_of {K : PySem.W.Frag} {F : Hp} : ∀ {ns : List Bool} {vs : List V}, RepL K F vs (ns.map .bool) → vs = ns.map V.bl
  | [], vs, h => repL_nil.mp h
  | n :: ns, vs, h => by
    obtain ⟨v, r, rfl, q, t⟩ := repL_cons.mp h
    rw [rep_bool.mp q, repL_bools_of t]
    rfl
def pyAll : List PyData → Option RV
  | [.list ds] => (boolsOf ds).map fun bs => .d (.bool (bs.all id))
  | _ => none
def pyAny : List PyData → Option RV
  | [.list ds] => (boolsOf ds).map fun bs => .d (.bool (bs.any id))
  | _ => none
def pySum : List PyData → Option RV
  | [.list ds] => (intsOf ds).map fun ns => oneI ns.sum
  | _ => none
def maxI : List Int → Option Int
  | [] => none
  | n :: ns => some (ns.foldl max n)
def minI : List Int → Option Int
  | [] => none
  | n :: ns => some (ns.foldl min n)
theorem foldl_max : ∀ (ns : List Int) (n : Int), ns.foldl max n ∈ n :: ns ∧ ∀ y ∈ n :: ns, y ≤ ns.foldl max n
  | [], n => by simp
  | m :: ns, n => by
    obtain ⟨h1, h2⟩ := foldl_max ns (max n m)
    rw [List.foldl_cons]
    refine ⟨?_, fun y hy => ?_⟩
    · rcases List.mem_cons.mp h1 with e | e
      · rw [e]
        by_cases q : n ≤ m
        · rw [Int.max_eq_right q]; simp
        · rw [Int.max_eq_left (by omega)]; simp
      · simp [e]
    · have h3 := h2 (max n m) (by simp)
      have h4 := Int.le_max_left n m
      have h5 := Int.le_max_right n m
      rcases List.mem_cons.mp hy with e | e
      · omega
      · rcases List.mem_cons.mp e with e | e
        · omega
        · exact h2 y (by simp [e])
theorem foldl_min : ∀ (ns : List Int) (n : Int), ns.foldl min n ∈ n :: ns ∧ ∀ y ∈ n :: ns, ns.foldl min n ≤ y
  | [], n => by simp
  | m :: ns, n => by
    obtain ⟨h1, h2⟩ := foldl_min ns (min n m)
    rw [List.foldl_cons]
    refine ⟨?_, fun y hy => ?_⟩
    · rcases List.mem_cons.mp h1 with e | e
      · rw [e]
        by_cases q : n ≤ m
        · rw [Int.min_eq_left q]; simp
        · rw [Int.min_eq_right (by omega)]; simp
      · simp [e]
    · have h3 := h2 (min n m) (by simp)
      have h4 := Int.min_le_left n m
      have h5 := Int.min_le_right n m
      rcases List.mem_cons.mp hy with e | e
      · omega
      · rcases List.mem_cons.mp e with e | e
        · omega
        · exact h2 y (by simp [e])
def pyMax : List PyData → Option RV
  | [.list ds] => match intsOf ds with
    | some ns => (maxI ns).map oneI
    | none => none
  | _ => none
def pyMin : List PyData → Option RV
  | [.list ds] => match intsOf ds with
    | some ns => (minI ns).map oneI
    | none => none
  | _ => none
section
variable {X : Cx}
theorem calld_len : CallD X (.builtin "len") pyLen := by
  refine ⟨_, call_len, fun F H vs xs Q ev hs hb hg hq => ?_⟩
  unfold pyLen at hg
  split at hg
  · cases hg
    cases hb with | cons b1 b2 => cases b2; obtain ⟨a, us, rfl, q, r⟩ := b1.seq hs; exact ⟨_, _, rfl, .inl ⟨us, SqL.of q, rfl⟩, hq.val hs (by rw [r.length]; exact rep_int.mpr rfl)⟩
  · cases hg
    cases hb with | cons b1 b2 => cases b2; obtain ⟨a, us, rfl, q, r⟩ := b1.tup hs; exact ⟨_, _, rfl, .inr ⟨us, q, rfl⟩, hq.val hs (by rw [r.length]; exact rep_int.mpr rfl)⟩
  · rename_i z
    by_cases h1 : z.length ≤ sizeLine
    · rw [if_pos h1] at hg
      cases hg
      cases hb with | cons b1 b2 => cases b2; rw [b1.str]; exact ⟨_, _, rfl, ⟨h1, rfl⟩, hq.val hs (rep_int.mpr rfl)⟩
    · rw [if_neg h1] at hg
      cases hg
  · cases hg
theorem calld_abs : CallD X (.builtin "abs") pyAbs := by
  refine ⟨_, call_abs, fun F H vs xs Q ev hs hb hg hq => ?_⟩
  unfold pyAbs at hg
  split at hg
  · cases hg
    cases hb with | cons b1 b2 => cases b2; rw [b1.int]; exact ⟨_, rfl, hq.val hs (rep_int.mpr rfl)⟩
  · cases hg
theorem calld_int : CallD X (.type "int") pyInt := by
  refine ⟨_, call_int1, fun F H vs xs Q ev hs hb hg hq => ?_⟩
  unfold pyInt at hg
  split at hg
  · cases hg
    cases hb with | cons b1 b2 => cases b2; rw [b1.int]; exact .inl ⟨_, rfl, hq.val hs (rep_int.mpr rfl)⟩
  · cases hg
    cases hb with | cons b1 b2 => cases b2; rw [b1.bool]; exact .inr ⟨_, rfl, hq.val hs (rep_int.mpr rfl)⟩
  · cases hg
theorem calld_bool : CallD X (.type "bool") pyBool := by
  refine ⟨_, call_bool1, fun F H vs xs Q ev hs hb hg hq => ?_⟩
  unfold pyBool at hg
  split at hg
  · cases hg
    cases hb with | cons b1 b2 => cases b2; rw [b1.int]; exact .inl ⟨_, rfl, hq.val hs (rep_bool.mpr rfl)⟩
  · cases hg
    cases hb with | cons b1 b2 => cases b2; rw [b1.bool]; exact .inr ⟨_, rfl, hq.val hs (rep_bool.mpr rfl)⟩
  · cases hg
theorem calld_max2 (hc : X.calm = true) : CallD X (.builtin "max") pyMax2 := by
  refine ⟨_, call_max2 hc, fun F H vs xs Q ev hs hb hg hq => ?_⟩
  unfold pyMax2 at hg
  split at hg
  · cases hg
    cases hb with | cons b1 b2 => cases b2 with | cons b2 b3 => cases b3; rw [b1.int, b2.int]; exact ⟨_, _, rfl, hq.val hs (rep_int.mpr rfl)⟩
  · cases hg
theorem calld_min2 (hc : X.calm = true) : CallD X (.builtin "min") pyMin2 := by
  refine ⟨_, call_min2 hc, fun F H vs xs Q ev hs hb hg hq => ?_⟩
  unfold pyMin2 at hg
  split at hg
  · cases hg
    cases hb with | cons b1 b2 => cases b2 with | cons b2 b3 => cases b3; rw [b1.int, b2.int]; exact ⟨_, _, rfl, hq.val hs (rep_int.mpr rfl)⟩
  · cases hg
theorem calld_list : CallD X (.type "list") pyListOf := by
  refine ⟨_, call_list_of, fun F H vs xs Q ev hs hb hg hq => ?_⟩
  unfold pyListOf at hg
  split at hg
  · cases hg
    cases hb with | cons b1 b2 => cases b2; obtain ⟨a, us, rfl, q, r⟩ := b1.seq hs; exact ⟨_, us, rfl, .inl (SqL.of q), fun l hl => hq.lst hs hl r⟩
  · cases hg
    cases hb with | cons b1 b2 => cases b2; obtain ⟨a, us, rfl, q, r⟩ := b1.tup hs; exact ⟨_, us, rfl, .inr q, fun l hl => hq.lst hs hl r⟩
  · cases hg
theorem calld_tuple : CallD X (.type "tuple") pyTupOf := by
  refine ⟨_, call_tuple_of, fun F H vs xs Q ev hs hb hg hq => ?_⟩
  unfold pyTupOf at hg
  split at hg
  · cases hg
    cases hb with | cons b1 b2 => cases b2; obtain ⟨a, us, rfl, q, r⟩ := b1.seq hs; exact ⟨_, us, rfl, .inl ⟨SqL.of q, fun l hl => hq.tup hs hl r⟩⟩
  · cases hg
    cases hb with
    | cons b1 b2 =>
      cases b2
      rcases b1 with b1 | ⟨a, _, o, _⟩
      · obtain ⟨a, us, rfl, q, r⟩ := rep_tupS b1
        exact ⟨_, us, rfl, .inr ⟨SqT.up hs q, hq.val hs b1⟩⟩
      · exact o.elim
  · cases hg
theorem calld_all (hc : X.calm = true) : CallD X (.builtin "all") pyAll := by
  refine ⟨_, cr_all hc, fun F H vs xs Q ev hs hb hg hq => ?_⟩
  unfold pyAll at hg
  split at hg
  · obtain ⟨bs, h1, rfl⟩ := Option.map_eq_some_iff.mp hg
    cases hb with
    | cons b1 b2 =>
      cases b2
      rw [boolsOf_eq h1] at b1
      obtain ⟨a, us, rfl, q, r⟩ := b1.seq hs
      rw [repL_bools_of r] at q
      exact ⟨_, bs, rfl, SqL.of q, hq.val hs (rep_bool.mpr rfl)⟩
  · cases hg
theorem calld_any (hc : X.calm = true) : CallD X (.builtin "any") pyAny := by
  refine ⟨_, cr_any hc, fun F H vs xs Q ev hs hb hg hq => ?_⟩
  unfold pyAny at hg
  split at hg
  · obtain ⟨bs, h1, rfl⟩ := Option.map_eq_some_iff.mp hg
    cases hb with
    | cons b1 b2 =>
      cases b2
      rw [boolsOf_eq h1] at b1
      obtain ⟨a, us, rfl, q, r⟩ := b1.seq hs
      rw [repL_bools_of r] at q
      exact ⟨_, bs, rfl, SqL.of q, hq.val hs (rep_bool.mpr rfl)⟩
  · cases hg
theorem calld_sum (hc : X.calm = true) : CallD X (.builtin "sum") pySum := by
  refine ⟨_, cr_sum hc, fun F H vs xs Q ev hs hb hg hq => ?_⟩
  unfold pySum at hg
  split at hg
  · obtain ⟨bs, h1, rfl⟩ := Option.map_eq_some_iff.mp hg
    cases hb with
    | cons b1 b2 =>
      cases b2
      rw [intsOf_eq h1] at b1
      obtain ⟨a, us, rfl, q, r⟩ := b1.seq hs
      rw [repL_ints_of r] at q
      exact ⟨_, bs, rfl, SqL.of q, hq.val hs (rep_int.mpr rfl)⟩
  · cases hg
theorem calld_max (hc : X.calm = true) : CallD X (.builtin "max") pyMax := by
  refine ⟨_, cr_max hc, fun F H vs xs Q ev hs hb hg hq => ?_⟩
  unfold pyMax at hg
  split at hg
  · split at hg
    · rename_i ns h1
      obtain ⟨m, h2, rfl⟩ := Option.map_eq_some_iff.mp hg
      cases hb with
      | cons b1 b2 =>
        cases b2
        rw [intsOf_eq h1] at b1
        obtain ⟨a, us, rfl, q, r⟩ := b1.seq hs
        rw [repL_ints_of r] at q
        cases ns with
        | nil => cases h2
        | cons n ns =>
          cases h2
          obtain ⟨h3, h4⟩ := foldl_max ns n
          refine ⟨_, n :: ns, rfl, SqL.of q, Nat.succ_pos _, fun m hm hle => hq.val hs (rep_int.mpr ?_)⟩
          have z1 := h4 m hm
          have z2 := hle _ h3
          rw [Int.le_antisymm z1 z2]
    · cases hg
  · cases hg
theorem calld_min (hc : X.calm = true) : CallD X (.builtin "min") pyMin := by
  refine ⟨_, cr_min hc, fun F H vs xs Q ev hs hb hg hq => ?_⟩
  unfold pyMin at hg
  split at hg
  · split at hg
    · rename_i ns h1
      obtain ⟨m, h2, rfl⟩ := Option.map_eq_some_iff.mp hg
      cases hb with
      | cons b1 b2 =>
        cases b2
        rw [intsOf_eq h1] at b1
        obtain ⟨a, us, rfl, q, r⟩ := b1.seq hs
        rw [repL_ints_of r] at q
        cases ns with
        | nil => cases h2
        | cons n ns =>
          cases h2
          obtain ⟨h3, h4⟩ := foldl_min ns n
          refine ⟨_, n :: ns, rfl, SqL.of q, Nat.succ_pos _, fun m hm hle => hq.val hs (rep_int.mpr ?_)⟩
          have z1 := h4 m hm
          have z2 := hle _ h3
          rw [Int.le_antisymm z2 z1]
    · cases hg
  · cases hg
end
/-! ### isinstance -/
def tyName : PyData → String
  | .none => "NoneType"
  | .bool _ => "bool"
  | .int _ => "int"
  | .str _ => "str"
  | .list _ => "list"
  | .tuple _ => "tuple"
  | .dict _ => "dict"
def isiD (T : String) (d : PyData) : Bool := tyName d == T || (T == "int" && tyName d == "bool")
theorem tyx_of {K : PySem.W.Frag} {F H : Hp} {v : V} {d : PyData} (hs : Same F H) (h : Bor K F H v d) : TyX K H v (.type (tyName d)) := by
  cases d with
  | none => rw [h.none]; exact .base .non
  | bool b => rw [h.bool]; exact .base (.bl b)
  | int i => rw [h.int]; exact .base (.int i)
  | str z => rw [h.str]; exact .base (.str z)
  | list ds => obtain ⟨a, us, rfl, q, r⟩ := h.seq hs; exact .base (.lst q)
  | tuple ds =>
    obtain ⟨a, us, rfl, q, r⟩ := h.tup hs
    rcases q with (q | ⟨o, q⟩) | ⟨o, its, n, q, hc, _⟩
    · exact .base (.tup q)
    · exact .fTuple q
    · exact .kTuple q hc
  | dict kvs =>
    rcases h with h | ⟨a, rfl, o, nt⟩
    · obtain ⟨a, kv, rfl, q, r⟩ := rep_dict.mp h
      exact .base (.dK (hs _ _ q))
    · obtain ⟨kv, q, r⟩ := o.dK nt
      exact .base (.dK q)
/-- the answers that the library's table gives -/
def IsiOk (T : String) : Prop := kitB "NoneType" T = some (T == "NoneType" || (T == "int" && false)) ∧ kitB "bool" T = some (T == "bool" || T == "int") ∧ kitB "int" T = some (T == "int") ∧ kitB "str" T = some (T == "str") ∧ kitB "list" T = some (T == "list") ∧ kitB "tuple" T = some (T == "tuple") ∧ kitB "dict" T = some (T == "dict")
theorem isi_int : IsiOk "int" := ⟨by decide +kernel, by decide +kernel, by decide +kernel, by decide +kernel, by decide +kernel, by decide +kernel, by decide +kernel⟩
theorem isi_bool : IsiOk "bool" := ⟨by decide +kernel, by decide +kernel, by decide +kernel, by decide +kernel, by decide +kernel, by decide +kernel, by decide +kernel⟩
theorem isi_str : IsiOk "str" := ⟨by decide +kernel, by decide +kernel, by decide +kernel, by decide +kernel, by decide +kernel, by decide +kernel, by decide +kernel⟩
theorem isi_tuple : IsiOk "tuple" := ⟨by decide +kernel, by decide +kernel, by decide +kernel, by decide +kernel, by decide +kernel, by decide +kernel, by decide +kernel⟩
theorem isi_list : IsiOk "list" := ⟨by decide +kernel, by decide +kernel, by decide +kernel, by decide +kernel, by decide +kernel, by decide +kernel, by decide +kernel⟩
def mIsi (T : String) (ma : M EV) : M EV := ma.bind fun a => fun env g =>
  match look env a with
  | some x => .ok (.d (.bool (isiD T x))) env g
  | _ => .bad
theorem kit_of_ok {K : PySem.W.Frag} {T : String} (h : IsiOk T) (d : PyData) : PySem.W.kitOne K (.type (tyName d)) (.type T) = some (isiD T d) := by
  obtain ⟨h1, h2, h3, h4, h5, h6, h7⟩ := h
  cases d with
  | none => refine kit_ty (h1.trans ?_); simp [isiD, tyName, eq_comm, BEq.comm]
  | bool b => refine kit_ty (h2.trans ?_); simp [isiD, tyName, BEq.comm]
  | int i => refine kit_ty (h3.trans ?_); simp [isiD, tyName, BEq.comm]
  | str z => refine kit_ty (h4.trans ?_); simp [isiD, tyName, BEq.comm]
  | list ds => refine kit_ty (h5.trans ?_); simp [isiD, tyName, BEq.comm]
  | tuple ds => refine kit_ty (h6.trans ?_); simp [isiD, tyName, BEq.comm]
  | dict kvs => refine kit_ty (h7.trans ?_); simp [isiD, tyName, BEq.comm]
section
variable {X : Cx} {C : DCx} {e : Expr} {es : List Expr} {pos : Pos}
theorem de_isi {T : String} {x : Str} {p p2 : Pos} {m : M EV} (ok : IsiOk T) (hg : Gl X "isinstance") (hm : X.mg "isinstance" = none) (hgT : Gl X x) (hmT : X.mg x = none) (hvT : bootBuiltins x = some (.type T)) (he : DE X C e m) (hnT : x ≠ "__name__" := by decide) (hdT : (x == ("__debug__" : Str)) = false := by decide)
    (hs : starEach [e, .Name x p2] X.env = (false, eval e X.env) :: starEach [.Name x p2] X.env := by rfl) (hs2 : starEach [.Name x p2] X.env = (false, eval (.Name x p2) X.env) :: starEach [] X.env := by rfl) (hpl : (backTo pos (starEach [.Name x p2] X.env)).any (·.1) = false := by rfl) :
    DE X C (.Call (.Name "isinstance" p) [e, .Name x p2] [] pos) (mIsi T m) := by
  refine ⟨fun hK => ?_⟩
  obtain ⟨t, ht, s⟩ := he.run hK
  have h2 : PA X [.Name x p2] (tCons (tC (.ty T)) tNil) := pa_cons (pe_bltn hgT hmT hvT rfl hnT hdT) pa_nil hs2
  refine ⟨_, pe_callB call_isi hg hm (by decide +kernel) (pa_cons ht h2 hs) (by decide) (by decide) hs hpl, fun σ F H l env g Q R w => ?_⟩
  refine s σ F H l env g _ R (Wp.mono (Wp.bind.mp w) (fun a env1 g1 w v F1 H1 l1 R1 x1 r1 f1 => ?_) fun _ _ _ _ w => w)
  split at w
  · rename_i y e1
    exact ⟨v, .ty T, _, _, _, rfl, .ty T, by rw [← hK]; exact tyx_of R1.sub (r1.look R1 e1), kit_of_ok ok y, w _ F1 H1 l1 R1 x1 RepEV.ofb trivial⟩
  · exact w.elim
end
end DL
namespace DL
open PySem L2
/-! ### a[i] -/
def pyIx : PyData → PyData → Option RV
  | .list ds, .int i => (atI ds i).map .d
  | .tuple ds, .int i => (atI ds i).map .d
  | .str z, .int i => if z.length ≤ sizeLine then (atI z.cps.toList i).map fun c => .d (.str ⟨#[c]⟩) else none
  | _, _ => none
theorem RepL.atI {K : PySem.W.Frag} {F : Hp} {ds : List PyData} {vs : List V} {i : Int} {d : PyData} (h : RepL K F vs ds) (e : L2.atI ds i = some d) : ∃ v, L2.atI vs i = some v ∧ Rep K F v d := by
  unfold L2.atI at e ⊢
  rw [h.length]
  cases q : ixN ds.length i with
  | none => rw [q] at e; cases e
  | some j =>
    rw [q] at e
    exact RepL.get' (i := j) h e
section
variable {X : Cx} {C : DCx} {e : Expr} {es : List Expr} {pos : Pos}
theorem de_ix {a b : Expr} {ma mb : M EV} (ha : DE X C a ma) (hb : DE X C b mb) (hp : PlainIx b := by intro _ _; rfl) : DE X C (.Subscript a b pos) (mBin pyIx ma mb) := by
  refine ⟨fun hK => ?_⟩
  obtain ⟨ta, h1, s1⟩ := ha.run hK
  obtain ⟨tb, h2, s2⟩ := hb.run hK
  refine ⟨_, pe_ix ix_seq h1 h2 hp, simBin s1 s2 ?_⟩
  rw [hK]
  intro F H v w x y Q ev hs hx hy hg hq
  unfold pyIx at hg
  split at hg
  · rename_i ds i
    obtain ⟨d, h3, rfl⟩ := Option.map_eq_some_iff.mp hg
    obtain ⟨a, us, rfl, q, r⟩ := hx.seq hs
    obtain ⟨u, h4, h5⟩ := r.atI h3
    rw [hy.int]
    exact .inl ⟨_, us, i, u, rfl, rfl, SqL.of q, h4, hq.val hs h5⟩
  · rename_i ds i
    obtain ⟨d, h3, rfl⟩ := Option.map_eq_some_iff.mp hg
    obtain ⟨a, us, rfl, q, r⟩ := hx.tup hs
    obtain ⟨u, h4, h5⟩ := r.atI h3
    rw [hy.int]
    exact .inr (.inl ⟨_, us, i, u, rfl, rfl, q, h4, hq.val hs h5⟩)
  · rename_i z i
    by_cases h1 : z.length ≤ sizeLine
    · rw [if_pos h1] at hg
      obtain ⟨c, h3, rfl⟩ := Option.map_eq_some_iff.mp hg
      rw [hy.int, hx.str]
      exact .inr (.inr ⟨z, i, c, rfl, rfl, h1, h3, hq.val hs (rep_str.mpr rfl)⟩)
    · rw [if_neg h1] at hg
      cases hg
  · cases hg
/-! ### a[lo:hi] -/
/-- a part of a slice -/
def SimO (C : DCx) (t : TO) (m : M (Option Int)) : Prop := ∀ (σ : L2.St) (F H : Hp) (l : Loc) (env : Env') (g : G) (Q : Option Int → Hp → Prop), Rel C σ F H l env g →
  Wp (m env g) (fun o env' g' => ∀ F' H' l', Rel C σ F' H' l' env' g' → Ext σ F H l env F' H' l' env' → Q o H') (KX C σ) → t σ H Q
structure DO (X : Cx) (C : DCx) (e : Option Expr) (m : M (Option Int)) : Prop where
  run : C.K = X.K → ∃ t, PO X e t ∧ SimO C t m
def mPart : PyData → M (Option Int)
  | .int i => M.pure (some i)
  | _ => M.bad
theorem do_none : DO X C none (M.pure none) := ⟨fun _ => ⟨_, po_none, fun σ F H l env g Q R w => w F H l R .refl⟩⟩
theorem do_some {m : M PyData} (h : DD X C e m) : DO X C (some e) (m.bind mPart) := by
  refine ⟨fun hK => ?_⟩
  obtain ⟨t, ht, s⟩ := h.run hK
  refine ⟨_, po_some ht, fun σ F H l env g Q R w => s σ F H l env g _ R (Wp.mono (Wp.bind.mp w) (fun d env1 g1 w v F1 H1 l1 R1 x1 r1 => ?_) fun _ _ _ _ w => w)⟩
  cases d with
  | int i => exact ⟨i, rep_int.mp r1, w F1 H1 l1 R1 x1⟩
  | _ => exact w.elim
def cutD (ds : List PyData) (lo hi : Option Int) : List PyData := (ds.drop (HT.sIx ds.length 0 lo)).take (HT.sIx ds.length ds.length hi - HT.sIx ds.length 0 lo)
theorem RepL.cut {K : PySem.W.Frag} {F : Hp} {ds : List PyData} {vs : List V} (h : RepL K F vs ds) (lo hi : Option Int) : RepL K F (cutV vs lo hi) (cutD ds lo hi) := by
  unfold cutV cutD
  rw [h.length]
  exact RepL.take _ (RepL.drop _ h)
def pySl (x : PyData) (lo hi : Option Int) : Option RV := match x with
  | .list ds => some (.fr (.list (cutD ds lo hi)))
  | .tuple ds => some (.d (.tuple (cutD ds lo hi)))
  | .str z => if z.length ≤ sizeLine then some (.d (.str (cutS z lo hi))) else none
  | _ => none
def mSl (ma : M EV) (ml mh : M (Option Int)) : M EV := ma.bind fun a => ml.bind fun lo => mh.bind fun hi => fun env g =>
  match look env a with
  | some x => M.opt ((pySl x lo hi).map RV.ev) env g
  | _ => .bad
theorem cutD_all {ds : List PyData} {lo hi : Option Int} (h1 : HT.sIx ds.length 0 lo = 0) (h2 : HT.sIx ds.length ds.length hi = ds.length) : cutD ds lo hi = ds := by
  unfold cutD
  rw [h1, h2]
  simp
theorem de_slice {lo hi : Option Expr} {p2 : Pos} {ma : M EV} {ml mh : M (Option Int)} (ha : DE X C e ma) (hl : DO X C lo ml) (hh : DO X C hi mh) : DE X C (.Subscript e (.Slice lo hi none p2) pos) (mSl ma ml mh) := by
  refine ⟨fun hK => ?_⟩
  obtain ⟨ta, h1, s1⟩ := ha.run hK
  obtain ⟨tl, h2, s2⟩ := hl.run hK
  obtain ⟨th, h3, s3⟩ := hh.run hK
  refine ⟨_, pe_slice (sl_list.or (sl_tupA.or sl_str)) h1 h2 h3, fun σ F H l env g Q R w => ?_⟩
  refine s1 σ F H l env g _ R (Wp.mono (Wp.bind.mp w) (fun a env1 g1 w v F1 H1 l1 R1 x1 r1 f1 => ?_) fun _ _ _ _ w => w)
  refine s2 σ F1 H1 l1 env1 g1 _ R1 (Wp.mono (Wp.bind.mp w) (fun lo' env2 g2 w F2 H2 l2 R2 x2 => ?_) fun _ _ _ _ w => w)
  refine s3 σ F2 H2 l2 env2 g2 _ R2 (Wp.mono (Wp.bind.mp w) (fun hi' env3 g3 w F3 H3 l3 R3 x3 => ?_) fun _ _ _ _ w => w)
  have x03 := (x1.trans (C := C) x2).trans (C := C) x3
  have r3 := (r1.up x2).up x3
  split at w
  · rename_i x e1
    have b := r3.look R3 e1
    cases hg : pySl x lo' hi' with
    | none => rw [hg] at w; exact w.elim
    | some ev =>
      rw [hg] at w
      have hq := KE.res R3 (KE.up w x03)
      rw [hK] at b hq
      unfold pySl at hg
      split at hg
      · cases hg
        obtain ⟨a, us, rfl, q, r⟩ := b.seq R3.sub
        exact .inl ⟨a, us, rfl, SqL.of q, fun p hp => hq.lst R3.sub hp (r.cut _ _)⟩
      · rename_i ds
        cases hg
        rcases b with b | ⟨a, _, o, _⟩
        · obtain ⟨a, us, rfl, q, r⟩ := rep_tupS b
          have hlen := r.length
          refine .inr (.inl ⟨a, us, rfl, SqT.up R3.sub q, fun hw => ?_, fun _ p hp => hq.tup R3.sub hp (r.cut _ _)⟩)
          rw [hlen] at hw
          have e2 := cutD_all hw.1 hw.2
          rw [e2] at hq
          exact hq.val R3.sub b
        · exact o.elim
      · rename_i z
        by_cases h1 : z.length ≤ sizeLine
        · rw [if_pos h1] at hg
          cases hg
          rw [b.str]
          exact .inr (.inr ⟨z, rfl, h1, hq.val R3.sub (rep_str.mpr rfl)⟩)
        · rw [if_neg h1] at hg
          cases hg
      · cases hg
  · exact w.elim
end
/-! ### a[::-1] -/
section
open PySem.W PyProof.Rows PySem.Spec HT
variable {prog : Program} {w : World} {A : Around} {E : Value → Shared → Prop} {s : Shared}
theorem adjust_rev (n : Nat) : Builtin.Slice.sliceAdjust none none (-1) (n : Int) = ((n : Int) - 1, -1) := by
  unfold Builtin.Slice.sliceAdjust
  simp
theorem places_rev (n : Nat) : Builtin.Slice.slicePlaces ((n : Int) - 1) (-1) (-1) = n := by
  unfold Builtin.Slice.slicePlaces
  rw [if_neg (by omega)]
  split <;> simp <;> omega
theorem range_rev (n : Nat) (f : Nat → Option Value) : (List.range n).filterMap (fun m => f (n - 1 - m)) = ((List.range n).filterMap f).reverse := by
  have e : (List.range n).reverse = (List.range n).map fun m => n - 1 - m := by
    refine List.ext_getElem (by simp) fun i h1 h2 => ?_
    simp
  rw [← List.filterMap_reverse, e, List.filterMap_map]
  rfl
theorem pick_rev (xs : List Value) : ((List.range xs.length).filterMap fun (m : Nat) => xs.toArray[(((xs.length : Int) - 1) + (m : Int) * (-1)).toNat]?).toArray = xs.reverse.toArray := by
  have e : (fun (m : Nat) => xs.toArray[(((xs.length : Int) - 1) + (m : Int) * (-1)).toNat]?) = fun m => (fun k => xs.toArray[k]?) (xs.length - 1 - m) := by
    funext m
    have : (((xs.length : Int) - 1) + (m : Int) * (-1)).toNat = xs.length - 1 - m := by omega
    rw [this]
  rw [e, range_rev]
  have h := pick_gen xs.toArray 0 xs.length
  have e2 : (fun (m : Nat) => xs.toArray[(((0 : Nat) : Int) + (m : Int) * 1).toNat]?) = fun m => xs.toArray[m]? := by
    funext m
    have : (((0 : Nat) : Int) + (m : Int) * 1).toNat = m := by omega
    rw [this]
  rw [e2] at h
  have h' := congrArg Array.toList h
  simp only at h'
  rw [h']
  simp
theorem sliceRev {sl : Addr} {vl vu vs : Value} {n : Nat} {Q : Int × Int × Nat → Shared → Prop} (hs : s.heap.IsSliceOf sl vl vu vs) (pl : IsPart vl none) (pu : IsPart vu none) (ps : IsPart vs (some (-1)))
    (h : Q ((n : Int) - 1, -1, n) s) : wpAny (model prog w) A (Builtin.Slice.sliceApplied (.ref sl) (pure (n : Int))) Q E s := by
  obtain ⟨os, hos, hcs, hds⟩ := id hs
  unfold Builtin.Slice.sliceApplied Builtin.Slice.sliceFields
  refine wpAny_bind (wpAny_bind (wpAny_field hos hds (x := vl) rfl (wpAny_bind (wpAny_field hos hds (x := vu) rfl (wpAny_bind (wpAny_field hos hds (x := vs) rfl (wpAny_pure ?_)))))))
  refine wpAny_bind (slicePart_ ps ?_)
  show wpAny _ _ (if ((-1 : Int) == 0) = true then _ else _) _ _ s
  rw [if_neg (by decide)]
  refine wpAny_bind (slicePart_ pl (wpAny_bind (slicePart_ pu (wpAny_bind (wpAny_pure ?_)))))
  show wpAny _ _ (match Builtin.Slice.sliceAdjust none none (-1) (n : Int) with | (a, b) => pure (a, (-1 : Int), Builtin.Slice.slicePlaces a b (-1))) _ _ s
  rw [adjust_rev n]
  show wpAny _ _ (pure ((n : Int) - 1, (-1 : Int), Builtin.Slice.slicePlaces ((n : Int) - 1) (-1) (-1))) _ _ s
  rw [places_rev]
  exact wpAny_pure h
theorem revTuple {t sl : Addr} {xs : List Value} {vl vu vs : Value} {Q : Value → Shared → Prop} (ht : IsTup s.heap t xs.toArray) (hs : s.heap.IsSliceOf sl vl vu vs) (pl : IsPart vl none) (pu : IsPart vu none) (ps : IsPart vs (some (-1)))
    (h : Q (.ref s.heap.objs.size) { s with heap := s.heap.push { cls := .type "tuple", data := .seq xs.reverse.toArray } })
    (hsz : xs.length ≤ sizeLine) : wpAny (model prog w) A (getItem (.ref t) (.ref sl)) Q E s := by
  have htake : sizeOk (.seq xs.reverse.toArray) := by
    show xs.reverse.toArray.size ≤ sizeLine
    rw [List.size_toArray, List.length_reverse]
    exact hsz
  obtain ⟨os, hos, hcs, hds⟩ := id hs
  have hTs : s.TypeIs (.ref sl) "slice" := ⟨os, hos, hcs⟩
  unfold getItem
  try with_reducible refine wpAny_holding ?_
  first | refine wpAny_bind (wpAny_pure ?_) | skip
  refine wpAny_bind (wpAny_sequenceKey ht.typeIs (by decide) ?_)
  refine wpAny_bind (wpAny_callSpecial?_slot (name := Str.ofString "__getitem__") ht.typeIs PyProof.Rows.slot_tuple_getitem
    (wpAny_call_entry PyProof.Rows.slot_tuple_getitem ht.typeIs entry_tuple_getitem ?_ (args_tuple_getitem _ _)))
  change wpAny _ _ (Builtin.Tuple.tupleItemsOf (.ref t) >>= _) _ _ s
  refine wpAny_bind (tupleItemsOf_ ht ?_)
  refine wpAny_bind (wpAny_typeOf hTs ?_)
  rw [if_pos (by decide)]
  refine wpAny_bind (sliceRev (n := xs.length) hs pl pu ps ?_)
  change wpAny _ _ (if (((xs.length : Int) - 1) == 0 && (-1 : Int) == 1 && xs.length == xs.toArray.size) = true then _ else _) _ _ s
  rw [if_neg (by simp), pick_rev]
  first
    | exact wpAny_bind (m := Builtin.Tuple.tupleExact _) (wpAny_newObj_type (wpAny_pure ⟨_, rfl, wpAny_pure h⟩) htake)
    | exact wpAny_bind (m := Builtin.Tuple.tupleExact _) (wpAny_newObj_type (wpAny_bind (wpAny_pure (wpAny_pure ⟨_, rfl, wpAny_pure h⟩))) htake)
    | exact wpAny_bind (wpAny_bind (m := Builtin.Tuple.tupleExact _) (wpAny_newObj_type (wpAny_pure (wpAny_pure ⟨_, rfl, wpAny_pure h⟩)) htake))
    | exact wpAny_bind (wpAny_bind (m := Builtin.Tuple.tupleExact _) (wpAny_newObj_type (wpAny_pure ⟨_, rfl, wpAny_pure h⟩) htake))
end
def pyRev : PyData → Option RV
  | .list ds => some (.fr (.list ds.reverse))
  | .tuple ds => some (.d (.tuple ds.reverse))
  | _ => none
theorem RepL.rev {K : PySem.W.Frag} {F : Hp} : ∀ {ds : List PyData} {vs : List V}, RepL K F vs ds → RepL K F vs.reverse ds.reverse
  | [], vs, h => by rw [repL_nil] at h; rw [h]; exact repL_nil.mpr rfl
  | d :: ds, vs, h => by
    obtain ⟨v, r, rfl, q, t⟩ := repL_cons.mp h
    rw [List.reverse_cons, List.reverse_cons]
    exact RepL.append (RepL.rev t) (repL_cons.mpr ⟨v, [], rfl, q, repL_nil.mpr rfl⟩)
section
open PySem.Spec PyProof.Rows
variable {X : Cx} {C : DCx} {e : Expr} {es : List Expr} {pos : Pos}
def tRevA (K : PySem.W.Frag) (te : TE) : TE := fun σ H Q => te σ H fun x H1 => (∃ a xs, x = .ref a ∧ SqL K H1 a xs ∧ ∀ p, H1 p = none → Q (.ref p) (upd H1 p (.lst xs.reverse))) ∨ ∃ a xs, x = .ref a ∧ SqT K H1 a xs ∧ ∀ p, H1 p = none → Q (.ref p) (upd H1 p (.tup xs.reverse))
theorem pe_revA {te : TE} {k : Nat} {p1 p2 p3 : Pos} (he : PE X e te) : PE X (.Subscript e (.Slice none none (some (.UnaryOp .USub (.Constant (.int 1) k p1) p2)) p3) pos) (tRevA X.K te) := by
  refine ⟨fun pins s σ H Q I h => ?_⟩
  refine Subscript_ (thn (he.run pins s σ H _ I h) fun v s1 ⟨x, H1, I1, r1, q1⟩ => ?_)
  have hst : PO X (some (.UnaryOp .USub (.Constant (.int 1) k p1) p2)) (tPart (tUn (rU fun i => .int (-i)) (tC (.int 1)))) := po_some (pe_un un_neg pe_int)
  refine wpAny_Slice (thn (po_none.run pins s1 σ H1 (fun o G => o = none ∧ G = H1) I1 ⟨rfl, rfl⟩) fun vl s2 ⟨l, H2, I2, pl, el, e2⟩ => ?_)
  subst el e2
  refine thn (po_none.run pins s2 σ H2 (fun o G => o = none ∧ G = H2) I2 ⟨rfl, rfl⟩) fun vu s3 ⟨u, H3, I3, pu, eu, e3⟩ => ?_
  subst eu e3
  refine thn (hst.run pins s3 σ H3 (fun o G => o = some (-1) ∧ G = H3) I3 ⟨1, rfl, -1, rfl, rfl, rfl⟩) fun vs s4 ⟨o, H4, I4, ps, eo, e4⟩ => ?_
  subst eo e4
  have I5 : Inv X pins σ H4 { s4 with heap := s4.heap.push { cls := .type "slice", data := .fields #[vl, vu, vs] } } := I4.kept (t' := s4.toks) fun b ob q => Heap.get?_push_of_some _ q
  change wpAny (model X.prog X.w) X.A (subscriptTail e (.Slice none none (some (.UnaryOp .USub (.Constant (.int 1) k p1) p2)) p3) v (.ref s4.heap.objs.size)) (EP X pins σ Q) X.xe { s4 with heap := s4.heap.push { cls := .type "slice", data := .fields #[vl, vu, vs] } }
  rcases q1 with ⟨a, xs, rfl, hx, q⟩ | ⟨a, xs, rfl, hx, q⟩
  · cases r1
    obtain ⟨its, r, ht, hz⟩ := I5.list hx
    have hlen := r.length
    refine tail_any (ops := [.ref a, .ref s4.heap.objs.size]) ht.isList.typeIs (PySem.slot_list_getitem.lookup) ?_ (by with_unfolding_all rfl)
    refine wpAny_getItem_list_slice ht.isList (Heap.IsSliceOf.new _ vl vu vs) pl pu ps (by decide) ?_ (by rw [List.size_toArray]; omega)
    rw [PySem.W.krv_pick]
    exact ⟨.ref _, _, I5.laid (t' := s4.toks) (o := .lst xs.reverse) (fun b ob q => Heap.get?_push_of_some _ q) (Nat.le_refl _) ⟨by rw [List.length_reverse]; exact hz, _, 0, r.reverse, Heap.get?_push_size _ rfl⟩, rfl, q _ (I5.hok.fresh (Nat.le_refl _))⟩
  · cases r1
    obtain ⟨its, r, ht, hz⟩ := I5.tuple hx
    have hlen := r.length
    refine tail_any (ops := [.ref a, .ref s4.heap.objs.size]) ht.typeIs (PyProof.Rows.slot_tuple_getitem.lookup) ?_ (by with_unfolding_all rfl)
    refine revTuple ht (Heap.IsSliceOf.new _ vl vu vs) pl pu ps ?_ (by rw [← hlen]; exact hz)
    exact ⟨.ref _, _, I5.laid (t' := s4.toks) (o := .tup xs.reverse) (fun b ob q => Heap.get?_push_of_some _ q) (Nat.le_refl _) ⟨by rw [List.length_reverse]; exact hz, _, r.reverse, IsTup.new _ _⟩, rfl, q _ (I5.hok.fresh (Nat.le_refl _))⟩
theorem de_rev {k : Nat} {p1 p2 p3 : Pos} {ma : M EV} (ha : DE X C e ma) : DE X C (.Subscript e (.Slice none none (some (.UnaryOp .USub (.Constant (.int 1) k p1) p2)) p3) pos) (mUn pyRev ma) := by
  refine ⟨fun hK => ?_⟩
  obtain ⟨ta, h1, s1⟩ := ha.run hK
  refine ⟨_, pe_revA h1, fun σ F H l env g Q R w => ?_⟩
  refine s1 σ F H l env g _ R (Wp.mono (Wp.bind.mp w) (fun a env1 g1 w v F1 H1 l1 R1 x1 r1 f1 => ?_) fun _ _ _ _ w => w)
  split at w
  · rename_i x e1
    have b := r1.look R1 e1
    cases hg : pyRev x with
    | none => rw [hg] at w; exact w.elim
    | some ev =>
      rw [hg] at w
      have hq := KE.res R1 (KE.up w x1)
      rw [hK] at b hq
      unfold pyRev at hg
      split at hg
      · cases hg
        obtain ⟨a, us, rfl, q, r⟩ := b.seq R1.sub
        exact .inl ⟨a, us, rfl, SqL.of q, fun p hp => hq.lst R1.sub hp r.rev⟩
      · cases hg
        obtain ⟨a, us, rfl, q, r⟩ := b.tup R1.sub
        exact .inr ⟨a, us, rfl, q, fun p hp => hq.tup R1.sub hp r.rev⟩
      · cases hg
  · exact w.elim
/-! ### list(range(..)), tuple(range(..)) -/
def SimRg (C : DCx) (t : L2.St → Hp → (Int → Int → Hp → Prop) → Prop) (m : M (Int × Int)) : Prop := ∀ (σ : L2.St) (F H : Hp) (l : Loc) (env : Env') (g : G) (Q : Int → Int → Hp → Prop), Rel C σ F H l env g →
  Wp (m env g) (fun p env' g' => ∀ F' H' l', Rel C σ F' H' l' env' g' → Ext σ F H l env F' H' l' env' → Q p.1 p.2 H') (KX C σ) → t σ H Q
structure DR (X : Cx) (C : DCx) (e : Expr) (m : M (Int × Int)) : Prop where
  run : C.K = X.K → ∃ t, PRg X e t ∧ SimRg C t m
def mIntOf : PyData → M Int
  | .int i => M.pure i
  | _ => M.bad
def mRg1 (ma : M PyData) : M (Int × Int) := ma.bind fun a => (mIntOf a).bind fun n => M.pure (0, n)
def mRg2 (ma mb : M PyData) : M (Int × Int) := ma.bind fun a => mb.bind fun b => (mIntOf a).bind fun i => (mIntOf b).bind fun j => M.pure (i, j)
theorem dr_1 {a : Expr} {p : Pos} {ma : M PyData} (hg : Gl X "range") (hm : X.mg "range" = none) (ha : DD X C a ma) (na : starEach [a] X.env = (false, eval a X.env) :: starEach [] X.env := by rfl) : DR X C (.Call (.Name "range" p) [a] [] pos) (mRg1 ma) := by
  refine ⟨fun hK => ?_⟩
  obtain ⟨ta, h1, s1⟩ := ha.run hK
  refine ⟨_, prg_1 hg hm h1 na, fun σ F H l env g Q R w => ?_⟩
  refine s1 σ F H l env g _ R (Wp.mono (Wp.bind.mp w) (fun d env1 g1 w v F1 H1 l1 R1 x1 r1 => ?_) fun _ _ _ _ w => w)
  cases d with
  | int i => exact ⟨i, rep_int.mp r1, w F1 H1 l1 R1 x1⟩
  | _ => exact w.elim
theorem dr_2 {a b : Expr} {p : Pos} {ma mb : M PyData} (hg : Gl X "range") (hm : X.mg "range" = none) (ha : DD X C a ma) (hb : DD X C b mb) (na : starEach [a, b] X.env = (false, eval a X.env) :: starEach [b] X.env := by rfl)
    (nb : starEach [b] X.env = (false, eval b X.env) :: starEach [] X.env := by rfl) (hp : (backTo pos (starEach [b] X.env)).any (·.1) = false := by rfl) : DR X C (.Call (.Name "range" p) [a, b] [] pos) (mRg2 ma mb) := by
  refine ⟨fun hK => ?_⟩
  obtain ⟨ta, h1, s1⟩ := ha.run hK
  obtain ⟨tb, h2, s2⟩ := hb.run hK
  refine ⟨_, prg_2 hg hm h1 h2 na nb hp, fun σ F H l env g Q R w => ?_⟩
  refine s1 σ F H l env g _ R (Wp.mono (Wp.bind.mp w) (fun d env1 g1 w v F1 H1 l1 R1 x1 r1 => ?_) fun _ _ _ _ w => w)
  refine s2 σ F1 H1 l1 env1 g1 _ R1 (Wp.mono (Wp.bind.mp w) (fun d2 env2 g2 w u F2 H2 l2 R2 x2 r2 => ?_) fun _ _ _ _ w => w)
  cases d with
  | int i =>
    cases d2 with
    | int j => exact ⟨i, j, rep_int.mp r1, rep_int.mp r2, w F2 H2 l2 R2 (x1.trans (C := C) x2)⟩
    | _ => exact w.elim
  | _ => exact w.elim
def rgInts (a b : Int) : List PyData := (List.range (b - a).toNat).map fun i => .int (a + (i : Nat))
theorem repL_rg {K : PySem.W.Frag} {F : Hp} (a b : Int) : RepL K F (rgV a b) (rgInts a b) := RepL.of_map (fun _ => rep_int.mpr rfl) _
def rgOk (a b : Int) : Bool := decide (a.natAbs < 2 ^ 62) && decide (b.natAbs < 2 ^ 62) && decide ((b - a).toNat ≤ 2 ^ 24)
theorem rgOk_of {a b : Int} (h : rgOk a b = true) : RgOk a b := by
  unfold rgOk at h
  simp only [Bool.and_eq_true, decide_eq_true_eq] at h
  obtain ⟨⟨h1, h2⟩, h3⟩ := h
  exact ⟨by omega, by omega, by omega, by omega, h3⟩
def rgTo (a b : Int) : Option (List PyData) := if rgOk a b then some (rgInts a b) else none
def rgGo (f : List PyData → RV) : Int × Int → M EV
  | (a, b) => match rgTo a b with
    | some ds => M.pure (f ds).ev
    | none => M.bad
theorem rgGo_eq (f : List PyData → RV) (a b : Int) : rgGo f (a, b) = match rgTo a b with
    | some ds => M.pure (f ds).ev
    | none => M.bad := rfl
def mRgL (f : List PyData → RV) (m : M (Int × Int)) : M EV := m.bind (rgGo f)
theorem de_listRg {p : Pos} {m : M (Int × Int)} (hc : X.calm = true) (hg : Gl X "list") (hm : X.mg "list" = none) (he : DR X C e m) (na : starEach [e] X.env = (false, eval e X.env) :: starEach [] X.env := by rfl) : DE X C (.Call (.Name "list" p) [e] [] pos) (mRgL (fun ds => .fr (.list ds)) m) := by
  refine ⟨fun hK => ?_⟩
  obtain ⟨t, h1, s1⟩ := he.run hK
  refine ⟨_, pe_listRg hc hg hm h1 na, fun σ F H l env g Q R w => ?_⟩
  refine s1 σ F H l env g _ R (Wp.mono (Wp.bind.mp w) (fun d env1 g1 w F1 H1 l1 R1 x1 => ?_) fun _ _ _ _ w => w)
  obtain ⟨i, j⟩ := d
  rw [rgGo_eq] at w
  cases q1 : rgTo i j with
  | none => rw [q1] at w; exact w.elim
  | some ds =>
  rw [q1] at w
  obtain ⟨ok, rfl⟩ := if_some q1
  exact ⟨rgOk_of ok, fun q hq => (KE.res (r := .fr (.list (rgInts i j))) R1 (KE.up w x1)).lst R1.sub hq (repL_rg _ _)⟩
theorem de_tupRg {p : Pos} {m : M (Int × Int)} (hc : X.calm = true) (hg : Gl X "tuple") (hm : X.mg "tuple" = none) (he : DR X C e m) (na : starEach [e] X.env = (false, eval e X.env) :: starEach [] X.env := by rfl) : DE X C (.Call (.Name "tuple" p) [e] [] pos) (mRgL (fun ds => .d (.tuple ds)) m) := by
  refine ⟨fun hK => ?_⟩
  obtain ⟨t, h1, s1⟩ := he.run hK
  refine ⟨_, pe_tupRg hc hg hm h1 na, fun σ F H l env g Q R w => ?_⟩
  refine s1 σ F H l env g _ R (Wp.mono (Wp.bind.mp w) (fun d env1 g1 w F1 H1 l1 R1 x1 => ?_) fun _ _ _ _ w => w)
  obtain ⟨i, j⟩ := d
  rw [rgGo_eq] at w
  cases q1 : rgTo i j with
  | none => rw [q1] at w; exact w.elim
  | some ds =>
  rw [q1] at w
  obtain ⟨ok, rfl⟩ := if_some q1
  exact ⟨rgOk_of ok, fun q hq => (KE.res (r := .d (.tuple (rgInts i j))) R1 (KE.up w x1)).tup R1.sub hq (repL_rg _ _)⟩
end
end DL
namespace DL
open PySem L2
theorem RepEV.ofn {C : DCx} {σ : L2.St} {F H : Hp} {l : Loc} {env : Env'} : RepEV C σ F H l env .non (.d .none) := by
  show Rep C.K F .non .none
  exact rep_none.mpr rfl
theorem RepEV.ofd {C : DCx} {σ : L2.St} {F H : Hp} {l : Loc} {env : Env'} {v : V} {x : PyData} (h : Rep C.K F v x) : RepEV C σ F H l env v (.d x) := h
/-! ### own lists, written -/
section
variable {C : DCx} {σ : L2.St} {F H : Hp} {l : Loc} {env : Env'} {g : G}
theorem Rel.put {i : Nat} {x : PyData} {a : Addr} {ds : List PyData} {vs : List V} (R : Rel C σ F H l env g) (e : env[i]? = some (Slot.own x)) (ha : σ[i]? = some (some (V.ref a))) (r : RepL C.K F vs ds) :
    Rel C σ F (upd H a (.lst vs)) l (env.set i (Slot.own (.list ds))) g ∧ Ext σ F H l env F (upd H a (.lst vs)) l (env.set i (Slot.own (.list ds))) := by
  obtain ⟨b, h1, h2, h3, h4, h5⟩ := R.own i x e
  rw [ha] at h1
  cases h1
  have oa : OwnAt σ env a := ⟨i, x, e, ha⟩
  refine ⟨⟨fun b w q => ?_, by rw [List.length_set]; exact R.len, fun j y q => ?_, fun j y q => ?_, fun j k y z b q1 q2 => ?_, fun j ns q => ?_, fun j bb q => ?_, ?_, fun b o q ns => ?_, fun b q => ?_, R.f0, R.fo, R.lo, R.l0⟩,
    ⟨.refl _, fun b q => ?_, fun b o q n1 _ => ?_, fun b q => .inl q, fun b ⟨j, y, q, hq⟩ => ?_, fun _ q => q, fun _ q => .inl q⟩⟩
  · have hb : b ≠ a := ne_of_none q h3
    rw [upd_ne hb]
    exact R.sub _ _ q
  · rcases get_set_cases q with ⟨z, w⟩ | ⟨z, q⟩
    · cases w
    · exact R.dat j y q
  · rcases get_set_cases q with ⟨z, w⟩ | ⟨z, q⟩
    · subst z
      cases w
      exact ⟨a, ha, ⟨vs, upd_same, r⟩, h3, h4, h5⟩
    · obtain ⟨b, g1, g2, g3, g4, g5⟩ := R.own j y q
      have hb : b ≠ a := fun w => z (R.inj i j x y a e q ha (by rw [← w]; exact g1))
      exact ⟨b, g1, g2.up (.refl _) fun o q => by rw [upd_ne hb]; exact q, g3, g4, g5⟩
  · have lift : ∀ {j : Nat} {y : PyData}, (env.set i (Slot.own (.list ds)))[j]? = some (Slot.own y) → ∃ y', env[j]? = some (Slot.own y') := fun q => by
      rcases get_set_cases q with ⟨z, w⟩ | ⟨z, q⟩
      · subst z; exact ⟨x, e⟩
      · exact ⟨_, q⟩
    obtain ⟨y', e1⟩ := lift q1
    obtain ⟨z', e2⟩ := lift q2
    exact R.inj j k y' z' b e1 e2
  · rcases get_set_cases q with ⟨z, w⟩ | ⟨z, q⟩
    · cases w
    · exact R.iscr j ns q
  · rcases get_set_cases q with ⟨z, w⟩ | ⟨z, q⟩
    · cases w
    · exact R.isrc j _ q
  · have q := R.src
    cases l with
    | none => cases g with
      | none => trivial
      | some s => exact q.elim
    | some p => cases g with
      | none => exact q.elim
      | some s =>
        obtain ⟨k1, k2, k3, k4, k5⟩ := q
        have n1 : p.1 ≠ a := fun z => h5 ⟨p, rfl, .inl z.symm⟩
        have n2 : p.2 ≠ a := fun z => h5 ⟨p, rfl, .inr z.symm⟩
        exact ⟨k1, by rw [upd_ne n1]; exact k2, by rw [upd_ne n2]; exact k3, k4, k5⟩
  · have hb : b ≠ a := fun z => by rw [z, h4] at q; cases q
    rw [upd_ne hb]
    exact R.old b o q ns
  · by_cases hb : b = a
    · rw [hb, upd_same]; exact nofun
    · rw [upd_ne hb]; exact R.oldd b q
  · by_cases hb : b = a
    · rw [hb, upd_same]; exact nofun
    · rw [upd_ne hb]; exact q
  · have hb : b ≠ a := fun z => n1 (by rw [z]; exact oa)
    rw [upd_ne hb]
    exact q
  · rcases get_set_cases q with ⟨z, w⟩ | ⟨z, q⟩
    · subst z
      exact ⟨_, x, e, hq⟩
    · exact ⟨j, y, q, hq⟩
end
/-- the list that slot i owns -/
def ownL (i : Nat) (env : Env') : Option (List PyData) := match env[i]? with
  | some (.own (.list ds)) => some ds
  | _ => none
theorem ownL_eq {i : Nat} {env : Env'} {ds : List PyData} (h : ownL i env = some ds) : env[i]? = some (.own (.list ds)) := by
  unfold ownL at h
  split at h
  · cases h; assumption
  · cases h
def mAppend (i : Nat) (ma : M PyData) : M EV := ma.bind fun d => fun env g =>
  match ownL i env with
  | some ds => if ds.length < sizeLine then .ok (.d .none) (env.set i (.own (.list (ds ++ [d])))) g else .bad
  | none => .bad
def mPop (i : Nat) : M EV := fun env g =>
  match ownL i env with
  | some ds => match ds[ds.length - 1]? with
    | some d => .ok (.d d) (env.set i (.own (.list ds.dropLast))) g
    | none => .bad
  | none => .bad
def mPopAt (i : Nat) (ma : M PyData) : M EV := ma.bind fun d => fun env g =>
  match d, ownL i env with
  | .int j, some ds => match seqIndex? j ds.length with
    | some k => match ds[k]? with
      | some x => if j.natAbs < 2 ^ 63 then .ok (.d x) (env.set i (.own (.list (ds.eraseIdx k)))) g else .bad
      | none => .bad
    | none => .bad
  | _, _ => .bad
/-- x.extend(e), e a list -/
def mExtend (i : Nat) (ma : M EV) : M EV := ma.bind fun a => fun env g =>
  match look env a, ownL i env with
  | some (.list es), some ds => if ds.length + es.length ≤ sizeLine then .ok (.d .none) (env.set i (.own (.list (ds ++ es)))) g else .bad
  | _, _ => .bad
theorem RepL.dropLast {K : PySem.W.Frag} {F : Hp} {ds : List PyData} {vs : List V} (h : RepL K F vs ds) : RepL K F vs.dropLast ds.dropLast := by
  rw [List.dropLast_eq_take, List.dropLast_eq_take, h.length]
  exact RepL.take _ h
theorem RepL.eraseIdx {K : PySem.W.Frag} {F : Hp} : ∀ {ds : List PyData} {vs : List V} (k : Nat), RepL K F vs ds → RepL K F (vs.eraseIdx k) (ds.eraseIdx k)
  | [], vs, k, h => by rw [repL_nil] at h; subst h; exact repL_nil.mpr rfl
  | d :: ds, vs, k, h => by
    obtain ⟨v, r, rfl, q, t⟩ := repL_cons.mp h
    cases k with
    | zero => exact t
    | succ k => exact repL_cons.mpr ⟨v, _, rfl, q, RepL.eraseIdx k t⟩
section
variable {X : Cx} {C : DCx} {o e : Expr} {es : List Expr} {apos cpos : Pos} {i : Nat}
theorem Rel.ownLst {σ : L2.St} {F H : Hp} {l : Loc} {env : Env'} {g : G} {ds : List PyData} (R : Rel C σ F H l env g) (e : env[i]? = some (.own (.list ds))) : ∃ a vs, σ[i]? = some (some (V.ref a)) ∧ H a = some (.lst vs) ∧ RepL C.K F vs ds := by
  obtain ⟨a, h1, ⟨vs, h2, r⟩, _⟩ := R.own i _ e
  exact ⟨a, vs, h1, h2, r⟩
/-- the slot's owner ahead: whatever is owned after was owned ahead, at its own address -/
theorem own_back {σ : L2.St} {F H F' H' : Hp} {l l' : Loc} {env env' : Env'} {g g' : G} {y : PyData} {a : Addr} (R : Rel C σ F H l env g) (R' : Rel C σ F' H' l' env' g') (x : Ext σ F H l env F' H' l' env') (e' : env'[i]? = some (.own y)) (ha : σ[i]? = some (some (V.ref a))) : OwnAt σ env a :=
  x.ow a ⟨i, y, e', ha⟩
/-- the receiver is a list, whatever becomes of it -/
def ownIs (i : Nat) (env : Env') : Bool := match env[i]? with
  | some (.own (.list _)) => true
  | _ => false
theorem ownIs_eq {env : Env'} (h : ownIs i env = true) : ∃ ds, env[i]? = some (.own (.list ds)) := by
  unfold ownIs at h
  split at h
  · exact ⟨_, by assumption⟩
  · cases h
def mOn {α : Type} (i : Nat) (m : M α) : M α := fun env g => if ownIs i env = true then m env g else .bad
theorem de_append (ho : PE X o (tVar i)) {m : M PyData} (he : DD X C e m)
    (hbase : attributeBase o "append" X.env (eval o X.env) = eval o X.env := by rfl)
    (hfew : ((backTo cpos (starEach [e] X.env)).all (fun x => !x.1) && (backToKw cpos (keywordEach [] X.env)).all (fun x => x.1.isSome) && decide ([e].length + ([] : List Keyword).length + (if ([] : List Keyword).isEmpty then 0 else 1) < 30)) = true := by rfl)
    (hline : (apos.endLine == cpos.line) = true := by rfl) (hs : starEach [e] X.env = (false, eval e X.env) :: starEach [] X.env := by rfl) (hplain : (backTo cpos (starEach [] X.env)).any (·.1) = false := by rfl) :
    DE X C (.Call (.Attribute o "append" apos) [e] [] cpos) (mOn i (mAppend i m)) := by
  refine ⟨fun hK => ?_⟩
  obtain ⟨t, ht, s⟩ := he.run hK
  refine ⟨_, pe_bm PySem.F.plainAttrs_list PySem.F.slot_list_append PySem.F.type_list_append (id := "list.append") (show MtR X "list.append" rAppend from mt_append) ho (pa_cons ht pa_nil hs) hbase hfew hline hs hplain, fun σ F H l env g Q R w => ?_⟩
  obtain ⟨h0, w⟩ := wp_iteR w
  obtain ⟨ds0, e0⟩ := ownIs_eq h0
  obtain ⟨a, vs0, g1, g2, g3⟩ := R.ownLst e0
  refine ⟨.ref a, g1, .inl ⟨rfl, vs0, SqL.of g2⟩, ?_⟩
  refine s σ F H l env g _ R (Wp.mono (Wp.bind.mp w) (fun d env1 gg w v F1 H1 l1 R1 x1 r1 => ?_) fun _ _ _ _ w => w)
  split at w
  · rename_i ds h1
    obtain ⟨hz, w⟩ := wp_iteR w
    have h1 := ownL_eq h1
    obtain ⟨b, vs, k1, k2, k3⟩ := R1.ownLst h1
    rw [g1] at k1
    cases k1
    obtain ⟨R2, x2⟩ := R1.put h1 g1 (RepL.append k3 (repL_cons.mpr ⟨v, [], rfl, r1, repL_nil.mpr rfl⟩))
    exact ⟨a, vs, v, rfl, rfl, k2, by rw [k3.length]; exact hz, w .non F1 _ l1 R2 (x1.trans (C := C) x2) RepEV.ofn trivial⟩
  · exact w.elim
theorem de_extend (ho : PE X o (tVar i)) {m : M EV} (he : DE X C e m)
    (hbase : attributeBase o "extend" X.env (eval o X.env) = eval o X.env := by rfl)
    (hfew : ((backTo cpos (starEach [e] X.env)).all (fun x => !x.1) && (backToKw cpos (keywordEach [] X.env)).all (fun x => x.1.isSome) && decide ([e].length + ([] : List Keyword).length + (if ([] : List Keyword).isEmpty then 0 else 1) < 30)) = true := by rfl)
    (hline : (apos.endLine == cpos.line) = true := by rfl) (hs : starEach [e] X.env = (false, eval e X.env) :: starEach [] X.env := by rfl) (hplain : (backTo cpos (starEach [] X.env)).any (·.1) = false := by rfl) :
    DE X C (.Call (.Attribute o "extend" apos) [e] [] cpos) (mOn i (mExtend i m)) := by
  refine ⟨fun hK => ?_⟩
  obtain ⟨t, ht, s⟩ := he.run hK
  refine ⟨_, pe_bm PySem.F.plainAttrs_list PySem.F.slot_list_extend PySem.F.type_list_extend (id := "list.extend") (show MtR X "list.extend" rExtend from mt_extend) ho (pa_cons ht pa_nil hs) hbase hfew hline hs hplain, fun σ F H l env g Q R w => ?_⟩
  obtain ⟨h0, w⟩ := wp_iteR w
  obtain ⟨ds0, e0⟩ := ownIs_eq h0
  obtain ⟨a, vs0, g1, g2, g3⟩ := R.ownLst e0
  refine ⟨.ref a, g1, .inl ⟨rfl, vs0, SqL.of g2⟩, ?_⟩
  refine s σ F H l env g _ R (Wp.mono (Wp.bind.mp w) (fun d env1 gg w v F1 H1 l1 R1 x1 r1 f1 => ?_) fun _ _ _ _ w => w)
  split at w
  · rename_i es' ds h2 h1
    obtain ⟨hz, w⟩ := wp_iteR w
    have h1 := ownL_eq h1
    obtain ⟨b, vs, k1, k2, k3⟩ := R1.ownLst h1
    rw [g1] at k1
    cases k1
    obtain ⟨c, us, rfl, q1, q2⟩ := (r1.look R1 h2).seq R1.sub
    obtain ⟨R2, x2⟩ := R1.put h1 g1 (RepL.append k3 q2)
    exact ⟨a, c, vs, us, rfl, rfl, k2, q1, by rw [k3.length, q2.length]; exact hz, w .non F1 _ l1 R2 (x1.trans (C := C) x2) RepEV.ofn trivial⟩
  · exact w.elim
theorem de_pop (ho : PE X o (tVar i)) (hbase : attributeBase o "pop" X.env (eval o X.env) = eval o X.env := by rfl) (hline : (apos.endLine == cpos.line) = true := by rfl) :
    DE X C (.Call (.Attribute o "pop" apos) [] [] cpos) (mPop i) := by
  refine ⟨fun hK => ?_⟩
  refine ⟨_, pe_bm0 PySem.F.plainAttrs_list PySem.F.slot_list_pop PySem.F.type_list_pop (id := "list.pop") (show MtR X "list.pop" rPop from mt_pop) ho hbase hline, fun σ F H l env g Q R w => ?_⟩
  unfold mPop at w
  split at w
  · rename_i ds h1
    split at w
    · rename_i d h2
      have h1 := ownL_eq h1
      obtain ⟨a, vs, k1, k2, k3⟩ := R.ownLst h1
      obtain ⟨v, h3, h4⟩ := RepL.get' k3 h2
      obtain ⟨R2, x2⟩ := R.put h1 k1 (RepL.dropLast k3)
      exact ⟨.ref a, k1, .inl ⟨rfl, vs, SqL.of k2⟩, a, vs, v, rfl, rfl, k2, by rw [k3.length]; exact h3, w v F _ l R2 x2 h4 trivial⟩
    · exact w.elim
  · exact w.elim
theorem de_popAt (ho : PE X o (tVar i)) {m : M PyData} (he : DD X C e m)
    (hbase : attributeBase o "pop" X.env (eval o X.env) = eval o X.env := by rfl)
    (hfew : ((backTo cpos (starEach [e] X.env)).all (fun x => !x.1) && (backToKw cpos (keywordEach [] X.env)).all (fun x => x.1.isSome) && decide ([e].length + ([] : List Keyword).length + (if ([] : List Keyword).isEmpty then 0 else 1) < 30)) = true := by rfl)
    (hline : (apos.endLine == cpos.line) = true := by rfl) (hs : starEach [e] X.env = (false, eval e X.env) :: starEach [] X.env := by rfl) (hplain : (backTo cpos (starEach [] X.env)).any (·.1) = false := by rfl) :
    DE X C (.Call (.Attribute o "pop" apos) [e] [] cpos) (mOn i (mPopAt i m)) := by
  refine ⟨fun hK => ?_⟩
  obtain ⟨t, ht, s⟩ := he.run hK
  refine ⟨_, pe_bm PySem.F.plainAttrs_list PySem.F.slot_list_pop PySem.F.type_list_pop (id := "list.pop") (show MtR X "list.pop" rPopAt from mt_popAt) ho (pa_cons ht pa_nil hs) hbase hfew hline hs hplain, fun σ F H l env g Q R w => ?_⟩
  obtain ⟨h0, w⟩ := wp_iteR w
  obtain ⟨ds0, e0⟩ := ownIs_eq h0
  obtain ⟨a, vs0, g1, g2, g3⟩ := R.ownLst e0
  refine ⟨.ref a, g1, .inl ⟨rfl, vs0, SqL.of g2⟩, ?_⟩
  refine s σ F H l env g _ R (Wp.mono (Wp.bind.mp w) (fun d env1 gg w v F1 H1 l1 R1 x1 r1 => ?_) fun _ _ _ _ w => w)
  split at w
  · rename_i j ds h1
    split at w
    · rename_i k h2
      split at w
      · rename_i x h3
        obtain ⟨b12, w⟩ := wp_iteR w
        have b1 : -(2 ^ 63) ≤ j := by omega
        have b2 : j < 2 ^ 63 := by omega
        have h1 := ownL_eq h1
        obtain ⟨b, vs, k1, k2, k3⟩ := R1.ownLst h1
        rw [g1] at k1
        cases k1
        cases rep_int.mp r1
        obtain ⟨u, h4, h5⟩ := RepL.get' k3 h3
        obtain ⟨R2, x2⟩ := R1.put h1 g1 (RepL.eraseIdx k k3)
        exact ⟨a, vs, j, k, u, rfl, rfl, k2, b1, b2, by rw [k3.length]; exact h2, h4, w u F1 _ l1 R2 (x1.trans (C := C) x2) h5 trivial⟩
      · exact w.elim
    · exact w.elim
  · exact w.elim
end
/-! ### xs.index(y) -/
def indexD (ds : List PyData) (d : PyData) : Option Nat := ds.findIdx? fun z => PyData.eqv z d
def pyIndex (x y : PyData) : Option RV := match x with
  | .list ds => if SeqAt.shaped (.list ds) && SeqAt.shaped y then (indexD ds y).map fun j : Nat => oneI (j : Nat) else none
  | _ => none
section
variable {X : Cx} {C : DCx} {o e : Expr} {es : List Expr} {apos cpos : Pos} {i : Nat}
def rIdx (K : PySem.W.Frag) : V → List V → Hp → VK → Prop := fun x xs H Q => ∃ (F : Hp) (y : V) (d : PyData) (ds : List PyData) (j : Nat), xs = [y] ∧ Same F H ∧ Bor K F H x (.list ds) ∧ Bor K F H y d ∧
  SeqAt.shaped (.list ds) = true ∧ SeqAt.shaped d = true ∧ indexD ds d = some j ∧ Q (.int (j : Nat)) H
theorem mt_idx (hu : X.A.units + 65 < cLine) : MtR X "list.index" (rIdx X.K) := by
  intro pins s σ H x xs v us Q I rx rxs h
  obtain ⟨F, y, d, ds, j, rfl, hsm, hl, hy, sl, sd, hj, q⟩ := h
  cases rxs with
  | cons ry rt =>
    rename_i uy ut
    cases rt
    obtain ⟨bs, r1⟩ := hy.reads I hsm ry
    obtain ⟨a, vs, rfl, hs, rl⟩ := hl.seq hsm
    cases rx
    have hxs : PyData.canLayAll0 ds = true := SeqAt.canLay_of_shaped sl
    obtain ⟨its, rv, ⟨⟨cls, dd, data, sls⟩, n, ho, hc, hdn, hdt⟩, hlen⟩ := I.list (SqL.of hs)
    simp only at hc hdt
    subst hc hdt
    obtain ⟨as, h4⟩ := RepL.reads I hsm ds vs its rl rv
    have hn : its.length = ds.length := SeqAt.ReadsAll.length ds its as h4
    have hmap : its.map (SeqAt.readOf s.heap) = ds := SeqAt.readsAll_map ds its as hxs h4
    have hvl := rv.length
    have hsl := sizeLine_eq
    have hjd : j < ds.length := (List.findIdx?_eq_some_iff_getElem.mp hj).choose
    have hjp := (List.findIdx?_eq_some_iff_getElem.mp hj).choose_spec
    have hjl : j < its.length := by omega
    have rd : ∀ (m : Nat) (hm : m < its.toArray.size) (hd : m < ds.length), SeqAt.readOf s.heap its.toArray[m] = ds[m] := by
      intro m hm hd
      have hml : m < its.length := by simpa using hm
      have e1 : (its.map (SeqAt.readOf s.heap))[m]? = some (SeqAt.readOf s.heap its[m]) := by rw [List.getElem?_map, List.getElem?_eq_getElem hml]; rfl
      rw [hmap, List.getElem?_eq_getElem hd] at e1
      have e2 := Option.some.inj e1
      simpa using e2.symm
    refine call_meets PySem.F.slot_list_index ⟨_, ho, rfl⟩ PySem.F.entry_list_index (PySem.F.args_list_index_2 _ _)
      (SeqAt.list_indexAt a its.toArray n dd sls uy (fun u => PyData.eqv (SeqAt.readOf s.heap u) d) j (by simpa using hjl) (by have := line63; omega) ?_ ?_) ⟨ho, SeqAt.items_eqAt (vs := its.toArray) (show ReadsAll s.heap its.toArray.toList ds as from h4) r1 hxs (SeqAt.canLay_of_shaped sd) (roomIn sd hu), ⟨.int (j : Nat), H, I.tok _, ⟨_, rfl⟩, q⟩⟩
    · change PyData.eqv (SeqAt.readOf s.heap its.toArray[j]) d = true
      rw [rd j _ hjd]
      exact hjp.1
    · intro m hm hmj
      change PyData.eqv (SeqAt.readOf s.heap its.toArray[m]) d = false
      rw [rd m hm (by omega)]
      have := hjp.2 m hmj
      simpa using this
def mIdx (ma mb : M EV) : M EV := ma.bind fun a => fun env g => match look env a with
  | some (.list _) => (mb.bind fun b => fun env g => match look env a, look env b with
    | some x, some y => M.opt ((pyIndex x y).map RV.ev) env g
    | _, _ => .bad) env g
  | _ => .bad
theorem de_index (hu : X.A.units + 65 < cLine) {ma mb : M EV} (ho : DE X C o ma) (he : DE X C e mb)
    (hbase : attributeBase o "index" X.env (eval o X.env) = eval o X.env := by rfl)
    (hfew : ((backTo cpos (starEach [e] X.env)).all (fun x => !x.1) && (backToKw cpos (keywordEach [] X.env)).all (fun x => x.1.isSome) && decide ([e].length + ([] : List Keyword).length + (if ([] : List Keyword).isEmpty then 0 else 1) < 30)) = true := by rfl)
    (hline : (apos.endLine == cpos.line) = true := by rfl) (hs : starEach [e] X.env = (false, eval e X.env) :: starEach [] X.env := by rfl) (hplain : (backTo cpos (starEach [] X.env)).any (·.1) = false := by rfl) :
    DE X C (.Call (.Attribute o "index" apos) [e] [] cpos) (mIdx ma mb) := by
  refine ⟨fun hK => ?_⟩
  obtain ⟨ta, h1, s1⟩ := ho.run hK
  obtain ⟨tb, h2, s2⟩ := he.run hK
  refine ⟨_, pe_bm PySem.F.plainAttrs_list PySem.F.slot_list_index PySem.F.type_list_index (mt_idx hu) h1 (pa_cons h2 pa_nil hs) hbase hfew hline hs hplain, fun σ F H l env g Q R w => ?_⟩
  refine s1 σ F H l env g _ R (Wp.mono (Wp.bind.mp w) (fun a env1 g1 w v F1 H1 l1 R1 x1 r1 f1 => ?_) fun _ _ _ _ w => w)
  split at w
  · rename_i ds0 e0
    obtain ⟨c, us, rfl, q1, q2⟩ := (r1.look R1 e0).seq R1.sub
    refine ⟨.inl ⟨rfl, us, SqL.of q1⟩, ?_⟩
    refine s2 σ F1 H1 l1 env1 g1 _ R1 (Wp.mono (Wp.bind.mp w) (fun b env2 g2 w u F2 H2 l2 R2 x2 r2 f2 => ?_) fun _ _ _ _ w => w)
    split at w
    · rename_i x y e1 e2
      cases hg : pyIndex x y with
      | none => rw [hg] at w; exact w.elim
      | some ev =>
        rw [hg] at w
        unfold pyIndex at hg
        split at hg
        · rename_i ds
          have z : (SeqAt.shaped (.list ds) && SeqAt.shaped y) = true ∧ (indexD ds y).map (fun j : Nat => oneI (j : Nat)) = some ev := by
            by_cases h : (SeqAt.shaped (.list ds) && SeqAt.shaped y) = true
            · rw [if_pos h] at hg; exact ⟨h, hg⟩
            · rw [if_neg h] at hg; cases hg
          obtain ⟨h3, hg⟩ := z
          obtain ⟨j, h4, rfl⟩ := Option.map_eq_some_iff.mp hg
          rw [Bool.and_eq_true] at h3
          have b1 := (r1.up x2).look R2 e1
          have b2 := r2.look R2 e2
          rw [hK] at b1 b2
          exact ⟨F2, u, y, ds, j, rfl, R2.sub, b1, b2, h3.1, h3.2, h4, (KE.res (r := oneI j) R2 (KE.up w (x1.trans (C := C) x2))).val R2.sub (rep_int.mpr rfl)⟩
        · cases hg
    · exact w.elim
  · exact w.elim
end
end DL
namespace DL
open PySem L2
/-! ### statements -/
inductive Fl where
  | nx
  | bk
  | ct
  | rt (v : EV)
def KS (C : DCx) (F : Hp) (D : Ends) : Fl → Env' → G → Prop := fun fl env' g' => ∀ σ' F' H' l', Rel C σ' F' H' l' env' g' → Same F F' → match fl with
  | .nx => D.nx σ' H'
  | .bk => D.bk σ' H'
  | .ct => D.ct σ' H'
  | .rt ev => ∀ v, RepEV C σ' F' H' l' env' v ev → D.rt v H'
theorem KS.up {C : DCx} {F F1 : Hp} {D : Ends} {fl : Fl} {e : Env'} {g : G} (h : KS C F D fl e g) (s : Same F F1) : KS C F1 D fl e g := fun σ' F' H' l' R s' => h σ' F' H' l' R (s.trans s')
def KXS (C : DCx) : Str → PyData → Env' → G → Prop := fun c x env' g' => ∀ σ', KX C σ' c x env' g'
def SimS (C : DCx) (t : TS) (m : M Fl) : Prop := ∀ (σ : L2.St) (F H : Hp) (l : Loc) (env : Env') (g : G) (D : Ends), Rel C σ F H l env g → Wp (m env g) (KS C F D) (KXS C) → t D σ H
structure DS (X : Cx) (C : DCx) (st : Stmt) (m : M Fl) : Prop where
  run : C.K = X.K → ∃ t, PS X st t ∧ SimS C t m
structure DSs (X : Cx) (C : DCx) (st : List Stmt) (m : M Fl) : Prop where
  run : C.K = X.K → ∃ t, PSs X st t ∧ SimS C t m
/-- an expression within a statement: what an exception is wished to be is the same at all slots -/
theorem Wp.xs {α : Type} {C : DCx} {σ : L2.St} {r : R α} {K : α → Env' → G → Prop} (h : Wp r K (KXS C)) : Wp r K (KX C σ) := h.mono (fun _ _ _ w => w) fun c x e g w => w σ
def mNx : M Fl := M.pure .nx
def mSeqS (a b : M Fl) : M Fl := a.bind fun fl => match fl with
  | .nx => b
  | .bk => M.pure .bk
  | .ct => M.pure .ct
  | .rt v => M.pure (.rt v)
def mDrop (m : M EV) : M Fl := m.bind fun _ => M.pure .nx
/-- what is given back -/
def mRet (m : M EV) : M Fl := m.bind fun ev => match ev with
  | .bo _ => M.bad
  | ev => M.pure (.rt ev)
/-- a name given back: what it owns goes along -/
def mRetV (i : Nat) : M Fl := fun env g => match env[i]? with
  | some (.d x) => .ok (.rt (.d x)) env g
  | some (.own x) => .ok (.rt (.fr x)) (env.set i .un) g
  | some (.src b) => .ok (.rt (.src b)) env g
  | _ => .bad
def mIfS (c : M Bool) (a b : M Fl) : M Fl := c.bind fun x => if x then a else b
def slotOf : EV → Option Slot
  | .d x => some (.d x)
  | .fr x => some (.own x)
  | .src b => some (.src b)
  | .scr ns => some (.scr ns)
  | .bo _ => none
def mSet (i : Nat) (m : M EV) : M Fl := m.bind fun ev => fun env g => match slotOf ev with
  | some s => .ok .nx (env.set i s) g
  | none => .bad
def mAsgP (p : Pat) (m : M PyData) : M Fl := m.bind fun d => fun env g => match asg p d env with
  | some env' => .ok .nx env' g
  | none => .bad
/-- a, b = e1, e2 -/
def mPar (i j : Nat) (m : M (List EV)) : M Fl := m.bind fun evs => fun env g => match evs with
  | [.d x, .d y] => .ok .nx ((env.set i (.d x)).set j (.d y)) g
  | _ => .bad
def mPar3 (i j k : Nat) (m : M (List EV)) : M Fl := m.bind fun evs => fun env g => match evs with
  | [.d x, .d y, .d z] => .ok .nx (((env.set i (.d x)).set j (.d y)).set k (.d z)) g
  | _ => .bad
def forD (p : Pat) (mb : M Fl) : List PyData → M Fl
  | [] => mNx
  | x :: xs => fun e g => match asg p x e with
    | none => .bad
    | some e1 => (mb.bind fun fl => match fl with
      | .nx => forD p mb xs
      | .ct => forD p mb xs
      | .bk => mNx
      | .rt v => M.pure (.rt v)) e1 g
def mFor (p : Pat) (mi : M (List PyData)) (mb : M Fl) : M Fl := mi.bind fun xs => forD p mb xs
def whileD (mt : M Bool) (mb : M Fl) : Nat → M Fl
  | 0 => M.bad
  | n + 1 => mt.bind fun b => if b then mb.bind fun fl => match fl with
      | .nx => whileD mt mb n
      | .ct => whileD mt mb n
      | .bk => mNx
      | .rt v => M.pure (.rt v)
    else mNx
theorem Rel.forget {C : DCx} {σ : L2.St} {F H : Hp} {l : Loc} {env : Env'} {g : G} (R : Rel C σ F H l env g) (i : Nat) : Rel C σ F H l (env.set i .un) g := by
  have un : ∀ {j : Nat} {s : Slot}, (env.set i .un)[j]? = some s → s ≠ .un → env[j]? = some s := fun h n => by
    rcases get_set_cases h with ⟨z, w⟩ | ⟨z, q⟩
    · exact absurd w.symm n
    · exact q
  exact ⟨R.sub, by rw [List.length_set]; exact R.len, fun j x h => R.dat j x (un h (by simp)), fun j x h => R.own j x (un h (by simp)), fun j k x y a h1 h2 => R.inj j k x y a (un h1 (by simp)) (un h2 (by simp)), fun j ns h => R.iscr j ns (un h (by simp)), fun j b h => R.isrc j b (un h (by simp)), R.src, R.old, R.oldd, R.f0, R.fo, R.lo, R.l0⟩
/-- a slot gets a value -/
theorem Rel.sets {C : DCx} {σ : L2.St} {F H : Hp} {l : Loc} {env : Env'} {g : G} {v : V} {ev : EV} {s : Slot} (R : Rel C σ F H l env g) (i : Nat) (r : RepEV C σ F H l env v ev) (e : slotOf ev = some s) : Rel C (σ.set i (some v)) F H l (env.set i s) g := by
  have base := R.forget i
  have lt : ∀ {s : Slot}, (env.set i s)[i]? ≠ none → i < env.length := fun h => by
    refine Classical.byContradiction fun z => h ?_
    simp; omega
  have at_ : ∀ {j : Nat} {s s' : Slot}, (env.set i s)[j]? = some s' → (i = j ∧ s = s' ∧ (σ.set i (some v))[j]? = some (some v)) ∨ (i ≠ j ∧ env[j]? = some s' ∧ (σ.set i (some v))[j]? = σ[j]?) := fun {j s s'} h => by
    rcases get_set_cases h with ⟨z, w⟩ | ⟨z, q⟩
    · subst z
      refine .inl ⟨rfl, w, ?_⟩
      have hl : i < env.length := lt (by rw [h]; simp)
      rw [List.getElem?_set_self (by rw [R.len]; exact hl)]
    · exact .inr ⟨z, q, get_set_ne z⟩
  cases ev with
  | d x =>
    cases e
    exact R.setd i r
  | bo _ => cases e
  | fr x =>
    cases e
    obtain ⟨a, rfl, h1, h2, h3, h4, h5⟩ := r
    refine ⟨R.sub, by rw [List.length_set, List.length_set]; exact R.len, fun j y h => ?_, fun j y h => ?_, fun j k y z b q1 q2 w1 w2 => ?_, fun j ns h => ?_, fun j bb h => ?_, R.src, R.old, R.oldd, R.f0, R.fo, R.lo, R.l0⟩
    · rcases at_ h with ⟨_, w, _⟩ | ⟨_, q, k⟩
      · cases w
      · rw [k]; exact R.dat j y q
    · rcases at_ h with ⟨_, w, k⟩ | ⟨_, q, k⟩
      · cases w; exact ⟨a, k, h1, h2, h3, h4⟩
      · rw [k]; exact R.own j y q
    · rcases at_ q1 with ⟨e1, _, k1⟩ | ⟨e1, p1, k1⟩
      · rcases at_ q2 with ⟨e2, _, k2⟩ | ⟨e2, p2, k2⟩
        · rw [← e1, ← e2]
        · rw [k1] at w1
          cases w1
          exact absurd ⟨k, z, p2, by rw [← k2]; exact w2⟩ h5
      · rcases at_ q2 with ⟨e2, _, k2⟩ | ⟨e2, p2, k2⟩
        · rw [k2] at w2
          cases w2
          exact absurd ⟨j, y, p1, by rw [← k1]; exact w1⟩ h5
        · exact R.inj j k y z b p1 p2 (by rw [← k1]; exact w1) (by rw [← k2]; exact w2)
    · rcases at_ h with ⟨_, w, _⟩ | ⟨_, q, k⟩
      · cases w
      · rw [k]; exact R.iscr j ns q
    · rcases at_ h with ⟨_, w, _⟩ | ⟨_, q, k⟩
      · cases w
      · rw [k]; exact R.isrc j _ q
  | src b =>
    cases e
    obtain ⟨d, c, h1, rfl⟩ := r
    refine ⟨R.sub, by rw [List.length_set, List.length_set]; exact R.len, fun j y h => ?_, fun j y h => ?_, fun j k y z b q1 q2 w1 w2 => ?_, fun j ns h => ?_, fun j bb h => ?_, R.src, R.old, R.oldd, R.f0, R.fo, R.lo, R.l0⟩
    · rcases at_ h with ⟨_, w, _⟩ | ⟨_, q, k⟩
      · cases w
      · rw [k]; exact R.dat j y q
    · rcases at_ h with ⟨_, w, k⟩ | ⟨_, q, k⟩
      · cases w
      · rw [k]; exact R.own j y q
    · rcases at_ q1 with ⟨e1, w, k1⟩ | ⟨e1, p1, k1⟩
      · cases w
      · rcases at_ q2 with ⟨e2, w, k2⟩ | ⟨e2, p2, k2⟩
        · cases w
        · exact R.inj j k y z b p1 p2 (by rw [← k1]; exact w1) (by rw [← k2]; exact w2)
    · rcases at_ h with ⟨_, w, _⟩ | ⟨_, q, k⟩
      · cases w
      · rw [k]; exact R.iscr j ns q
    · rcases at_ h with ⟨_, w, k⟩ | ⟨_, q, k⟩
      · cases w; exact ⟨d, c, h1, k⟩
      · rw [k]; exact R.isrc j _ q
  | scr ns =>
    cases e
    obtain ⟨a, rfl, h1⟩ := r
    refine ⟨R.sub, by rw [List.length_set, List.length_set]; exact R.len, fun j y h => ?_, fun j y h => ?_, fun j k y z b q1 q2 w1 w2 => ?_, fun j ns' h => ?_, fun j bb h => ?_, R.src, R.old, R.oldd, R.f0, R.fo, R.lo, R.l0⟩
    · rcases at_ h with ⟨_, w, _⟩ | ⟨_, q, k⟩
      · cases w
      · rw [k]; exact R.dat j y q
    · rcases at_ h with ⟨_, w, k⟩ | ⟨_, q, k⟩
      · cases w
      · rw [k]; exact R.own j y q
    · rcases at_ q1 with ⟨e1, w, k1⟩ | ⟨e1, p1, k1⟩
      · cases w
      · rcases at_ q2 with ⟨e2, w, k2⟩ | ⟨e2, p2, k2⟩
        · cases w
        · exact R.inj j k y z b p1 p2 (by rw [← k1]; exact w1) (by rw [← k2]; exact w2)
    · rcases at_ h with ⟨_, w, k⟩ | ⟨_, q, k⟩
      · cases w; exact ⟨a, k, h1⟩
      · rw [k]; exact R.iscr j ns' q
    · rcases at_ h with ⟨_, w, k⟩ | ⟨_, q, k⟩
      · cases w
      · rw [k]; exact R.isrc j _ q
section
variable {X : Cx} {C : DCx} {e : Expr} {es : List Expr} {st : Stmt} {rest : List Stmt} {pos : Pos}
theorem dss_nil : DSs X C [] mNx := ⟨fun _ => ⟨_, pss_nil, fun σ F H l env g D R w => w σ F H l R (.refl _)⟩⟩
theorem simSeq {t u : TS} {a b : M Fl} (ha : SimS C t a) (hb : SimS C u b) : SimS C (tSeq t u) (mSeqS a b) := by
  intro σ F H l env g D R w
  refine ha σ F H l env g { D with nx := u D } R (Wp.mono (Wp.bind.mp w) (fun fl env1 g1 w σ1 F1 H1 l1 R1 sF => ?_) fun _ _ _ _ w => w)
  cases fl with
  | nx => exact hb σ1 F1 H1 l1 env1 g1 D R1 (w.mono (fun _ _ _ w => w.up sF) fun _ _ _ _ w => w)
  | bk => exact w σ1 F1 H1 l1 R1 sF
  | ct => exact w σ1 F1 H1 l1 R1 sF
  | rt v => exact w σ1 F1 H1 l1 R1 sF
theorem dss_cons {a b : M Fl} (ha : DS X C st a) (hb : DSs X C rest b) : DSs X C (st :: rest) (mSeqS a b) := by
  refine ⟨fun hK => ?_⟩
  obtain ⟨t, h1, s1⟩ := ha.run hK
  obtain ⟨u, h2, s2⟩ := hb.run hK
  exact ⟨_, pss_cons h1 h2, simSeq s1 s2⟩
theorem dss_one {a : M Fl} (ha : DS X C st a) : DSs X C [st] a := ⟨fun hK => let ⟨t, h1, s1⟩ := ha.run hK; ⟨_, pss_one h1, s1⟩⟩
theorem ds_pass : DS X C (.Pass pos) mNx := ⟨fun _ => ⟨_, ps_pass, fun σ F H l env g D R w => w σ F H l R (.refl _)⟩⟩
theorem ds_break : DS X C (.Break pos) (M.pure .bk) := ⟨fun _ => ⟨_, ps_break, fun σ F H l env g D R w => w σ F H l R (.refl _)⟩⟩
theorem ds_cont : DS X C (.Continue pos) (M.pure .ct) := ⟨fun _ => ⟨_, ps_continue, fun σ F H l env g D R w => w σ F H l R (.refl _)⟩⟩
theorem ds_doc {x : Str} {j : Nat} {p p' : Pos} : DS X C (.Expr (.Constant (.str x) j p) p') mNx := ⟨fun _ => ⟨_, ps_doc, fun σ F H l env g D R w => w σ F H l R (.refl _)⟩⟩
theorem ds_never : DS X C st M.bad := ⟨fun _ => ⟨_, ps_never, fun σ F H l env g D R w => w.elim⟩⟩
theorem dss_never : DSs X C rest M.bad := ⟨fun _ => ⟨_, pss_never, fun σ F H l env g D R w => w.elim⟩⟩
theorem ds_expr {m : M EV} (h : DE X C e m) (hs : swapsWith e none pos.line X.env = pure false := by rfl) : DS X C (.Expr e pos) (mDrop m) := by
  refine ⟨fun hK => ?_⟩
  obtain ⟨t, h1, s1⟩ := h.run hK
  refine ⟨_, ps_expr h1 hs, fun σ F H l env g D R w => ?_⟩
  exact s1 σ F H l env g _ R (Wp.mono (Wp.bind.mp w).xs (fun ev env1 g1 w v F1 H1 l1 R1 x1 r1 f1 => w σ F1 H1 l1 R1 x1.fs) fun _ _ _ _ w => w)
theorem ds_ret {m : M EV} (h : DE X C e m) : DS X C (.Return (some e) pos) (mRet m) := by
  refine ⟨fun hK => ?_⟩
  obtain ⟨t, h1, s1⟩ := h.run hK
  refine ⟨_, ps_ret h1, fun σ F H l env g D R w => ?_⟩
  refine s1 σ F H l env g _ R (Wp.mono (Wp.bind.mp w).xs (fun ev env1 g1 w v F1 H1 l1 R1 x1 r1 f1 => ?_) fun _ _ _ _ w => w)
  cases ev with
  | bo i => exact w.elim
  | _ => exact w σ F1 H1 l1 R1 x1.fs v r1
theorem ds_retV {i : Nat} (h : PE X e (tVar i)) : DS X C (.Return (some e) pos) (mRetV i) := by
  refine ⟨fun hK => ⟨_, ps_ret h, fun σ F H l env g D R w => ?_⟩⟩
  unfold mRetV at w
  split at w
  · rename_i x q
    obtain ⟨v, h1, h2⟩ := R.dat i x q
    exact ⟨v, h1, w σ F H l R (.refl _) v h2⟩
  · rename_i x q
    obtain ⟨a, h1, h2, h3, h4, h5⟩ := R.own i x q
    refine ⟨_, h1, w σ F H l (R.forget i) (.refl _) (V.ref a) ⟨a, rfl, h2, h3, h4, h5, fun ⟨j, y, q1, q2⟩ => ?_⟩⟩
    rcases get_set_cases q1 with ⟨z, w⟩ | ⟨z, q3⟩
    · cases w
    · exact z (R.inj i j x y a q q3 h1 q2)
  · rename_i q
    obtain ⟨d, c, h1, h2⟩ := R.isrc i _ q
    exact ⟨_, h2, w σ F H l R (.refl _) _ ⟨d, c, h1, rfl⟩⟩
  · exact w.elim
theorem ds_retN : DS X C (.Return none pos) (M.pure (.rt (.d .none))) := ⟨fun _ => ⟨_, ps_retN, fun σ F H l env g D R w => w σ F H l R (.refl _) .non RepEV.ofn⟩⟩
theorem ds_if {c : Expr} {a b : List Stmt} {mc : M Bool} {ma mb : M Fl} (hc : DT X C c mc) (ha : DSs X C a ma) (hb : DSs X C b mb) : DS X C (.If c a b pos) (mIfS mc ma mb) := by
  refine ⟨fun hK => ?_⟩
  obtain ⟨tc, h0, s0⟩ := hc.run hK
  obtain ⟨ta, h1, s1⟩ := ha.run hK
  obtain ⟨tb, h2, s2⟩ := hb.run hK
  refine ⟨_, ps_if h0 h1 h2, fun σ F H l env g D R w => ?_⟩
  refine s0 σ F H l env g _ R (Wp.mono (Wp.bind.mp w).xs (fun c env1 g1 w F1 H1 l1 R1 x1 => ?_) fun _ _ _ _ w => w)
  cases c with
  | true => exact s1 σ F1 H1 l1 env1 g1 D R1 (w.mono (fun _ _ _ w => w.up x1.fs) fun _ _ _ _ w => w)
  | false => exact s2 σ F1 H1 l1 env1 g1 D R1 (w.mono (fun _ _ _ w => w.up x1.fs) fun _ _ _ _ w => w)
theorem simSet {t : TE} {m : M EV} {i : Nat} (s1 : SimE C t m) : SimS C (tAsg t (gName i)) (mSet i m) := by
  intro σ F H l env g D R w
  refine s1 σ F H l env g _ R (Wp.mono (Wp.bind.mp w).xs (fun ev env1 g1 w v F1 H1 l1 R1 x1 r1 f1 => ?_) fun _ _ _ _ w => w)
  split at w
  · rename_i s q
    exact w _ F1 H1 l1 (R1.sets i r1 q) x1.fs
  · exact w.elim
theorem ds_set {i : Nat} {x : Str} {m : M EV} {pos' : Pos} (hN : X.N.Nodup) (hi : X.N[i]? = some x) (hx : L2.Loc X.env.scope x) (h : DE X C e m) (hs : swapsWith e (some (.Name x pos')) pos.line X.env = pure false := by rfl) (hf : X.fn x = true ∨ X.env.scope.names.lookup x = some .local := by first | exact .inl rfl | exact .inr rfl | assumption) :
    DS X C (.Assign [.Name x pos'] e pos) (mSet i m) := by
  refine ⟨fun hK => ?_⟩
  obtain ⟨t, h1, s1⟩ := h.run hK
  exact ⟨_, ps_set hN hi hx h1 hs hf, simSet s1⟩
theorem ds_setC {i : Nat} {y : Str} {py : Pos} {elt tg iter : Expr} {ifs : List Expr} {scope : Scope} {own : List (Str × Nat)} {spos : Pos} {p : Pat} {mi : M (List PyData)} {mt : M Bool} {me : M PyData} (hc : X.calm = true) (hN : X.N.Nodup)
    (hy : X.N[i]? = some y) (hyl : X.env.scope.names.lookup y = some .local) (hsw : swapsWith (.ListComp elt [⟨tg, iter, ifs, 0⟩] scope pos) (some (.Name y py)) spos.line X.env = pure true) (hi : DI X C tg iter mi) (ok : BlkOk X.N X.env.scope scope own)
    (hg : ∀ (s : Shared) (H : Hp) (A : Addr) (cl : List (Str × Addr)) (fp : List Addr), DG (X.blk s H scope (compEnvC scope cl A X.env) fp) C.calm tg p)
    (ht : ∀ (s : Shared) (H : Hp) (A : Addr) (cl : List (Str × Addr)) (fp : List Addr), DTs (X.blk s H scope (compEnvC scope cl A X.env) fp) C.calm ifs mt)
    (he : ∀ (s : Shared) (H : Hp) (A : Addr) (cl : List (Str × Addr)) (fp : List Addr), DD (X.blk s H scope (compEnvC scope cl A X.env) fp) C.calm elt me)
    (hp : (p.idx.all fun i => decide (i ∈ own.map (·.2))) = true) (hs : ∀ x, foldedSetIterable iter X.env x = pure x := by intro _; rfl) :
    DS X C (.Assign [.Name y py] (.ListComp elt [⟨tg, iter, ifs, 0⟩] scope pos) spos) (mSet i (mComp p (own.map (·.2)) mi mt me)) := by
  refine ⟨fun hK => ?_⟩
  obtain ⟨wi, h1, s1⟩ := hi.run hK
  refine ⟨_, ps_setLc hc hN hy hyl hsw h1 ok (fun s H A cl fp => (hg s H A cl fp).pg hK) (fun s H A cl fp => (ht s H A cl fp).pt hK) (fun s H A cl fp => (he s H A cl fp).pe hK) hs, simSet (simComp s1 simG_of simT_of simD_of fun i hi => ?_)⟩
  exact of_decide_eq_true (List.all_eq_true.mp hp i hi)
theorem ds_setCF {i : Nat} {y : Str} {py : Pos} {elt tg iter : Expr} {ifs : List Expr} {scope : Scope} {own : List (Str × Nat)} {spos : Pos} {p : Pat} {mi : M (List PyData)} {mt : M Bool} {me : M PyData} (hc : X.calm = true) (hN : X.N.Nodup)
    (hy : X.N[i]? = some y) (hyl : X.env.scope.names.lookup y = some .local) (hsw : swapsWith (.ListComp elt [⟨tg, iter, ifs, 0⟩] scope pos) (some (.Name y py)) spos.line X.env = pure true) (hi : DI X C tg iter mi) (ok : BlkOk X.N X.env.scope scope own)
    (hg : ∀ (s : Shared) (H : Hp) (A : Addr) (cl : List (Str × Addr)) (fp : List Addr), DG (X.blk s H scope (compEnvC scope cl A X.env) fp) C.calm tg p)
    (ht : ∀ (s : Shared) (H : Hp) (A : Addr) (cl : List (Str × Addr)) (fp : List Addr), DTs (X.blk s H scope (compEnvC scope cl A X.env) fp) C.calm ifs mt)
    (he : ∀ (s : Shared) (H : Hp) (A : Addr) (cl : List (Str × Addr)) (fp : List Addr), DD (X.blk s H scope (compEnvC scope cl A X.env) fp) C.calm elt me)
    (hp : (p.idx.all fun i => decide (i ∈ own.map (·.2))) = true) (hs : ∀ x, foldedSetIterable iter X.env x = pure x := by intro _; rfl) :
    DS X C (.Assign [.Name y py] (.ListComp elt [⟨tg, iter, ifs, 0⟩] scope pos) spos) (mSet i (mArg (mComp p (own.map (·.2)) mi mt me))) := by
  refine ⟨fun hK => ?_⟩
  obtain ⟨wi, h1, s1⟩ := hi.run hK
  refine ⟨_, ps_setLc hc hN hy hyl hsw h1 ok (fun s H A cl fp => (hg s H A cl fp).pg hK) (fun s H A cl fp => (ht s H A cl fp).pt hK) (fun s H A cl fp => (he s H A cl fp).pe hK) hs, simSet (simArg (simComp s1 simG_of simT_of simD_of fun i hi => ?_))⟩
  exact of_decide_eq_true (List.all_eq_true.mp hp i hi)
theorem ds_asgP {tg : Expr} {p : Pat} {m : M PyData} (h : DD X C e m) (hg : DG X C tg p) (hs : swapsWithSole [tg] e pos.line X.env = pure false := by rfl) (hw : swappedStores [tg] e X.env = pure none := by rfl)
    (h1 : (assignEach [tg] X.env).map (·.2) = [assign tg X.env] := by rfl) : DS X C (.Assign [tg] e pos) (mAsgP p m) := by
  refine ⟨fun hK => ?_⟩
  obtain ⟨t, k1, s1⟩ := h.run hK
  obtain ⟨g, k2, s2⟩ := hg.run hK
  refine ⟨_, ps_asg k1 k2 hs hw h1, fun σ F H l env gs D R w => ?_⟩
  refine s1 σ F H l env gs _ R (Wp.mono (Wp.bind.mp w).xs (fun d env1 g1 w v F1 H1 l1 R1 x1 r1 => ?_) fun _ _ _ _ w => w)
  split at w
  · rename_i env2 q
    exact s2 σ F1 H1 l1 env1 env2 g1 v d _ R1 r1 q fun σ2 R2 _ _ => w σ2 F1 H1 l1 R2 x1.fs
  · exact w.elim
theorem ds_par {i j : Nat} {x y : Str} {a b : Expr} {m : M (List EV)} {px py pt : Pos} {kt k2 : Nat} {pt2 : Pos} (hc : X.calm = true) (hN : X.N.Nodup) (hi : X.N[i]? = some x) (hj : X.N[j]? = some y) (hij : i ≠ j)
    (hx : X.env.scope.names.lookup x = some .local) (hy : X.env.scope.names.lookup y = some .local) (h : DA X C [a, b] m)
    (hw : swappedStores [.Tuple [.Name x px, .Name y py] kt pt] (.Tuple [a, b] k2 pt2) X.env = pure (some [x, y]))
    (hs : swapsWithSole [.Tuple [.Name x px, .Name y py] kt pt] (.Tuple [a, b] k2 pt2) pos.line X.env = pure false := by rfl) :
    DS X C (.Assign [.Tuple [.Name x px, .Name y py] kt pt] (.Tuple [a, b] k2 pt2) pos) (mPar i j m) := by
  refine ⟨fun hK => ?_⟩
  obtain ⟨t, k1, s1⟩ := h.run hK
  refine ⟨_, ps_par hc hN hi hj hij hx hy k1 hw hs, fun σ F H l env g D R w => ?_⟩
  refine s1 σ F H l env g _ R (Wp.mono (Wp.bind.mp w).xs (fun evs env1 g1 w vs F1 H1 l1 R1 x1 r1 => ?_) fun _ _ _ _ w => w)
  split at w
  · rename_i dx dy
    cases r1 with
    | cons r1 t1 =>
      cases t1 with
      | cons r2 t2 =>
        cases t2
        exact ⟨_, _, rfl, w _ F1 H1 l1 ((R1.setd i r1.1).setd j r2.1) x1.fs⟩
  · exact w.elim
theorem simFor {wi : TI} {gt : TG} {tb : TS} {p : Pat} {mi : M (List PyData)} {mb : M Fl} (hi : SimI C wi mi) (hg : SimG C gt p) (hb : SimS C tb mb) : SimS C (tFor wi gt tb) (mFor p mi mb) := by
  intro σ F H l env gs D R w
  refine hi σ F H l env gs _ R (Wp.mono (Wp.bind.mp w).xs (fun xs env1 g1 w J F1 H1 l1 R1 x1 W1 => ?_) fun _ _ _ _ w => w)
  let N : Nat → L2.St → Hp → Prop := fun i σ' H' => ∃ (F' : Hp) (l' : Loc) (e' : Env') (g' : G), Same F1 F' ∧ Rel C σ' F' H' l' e' g' ∧ Wp (forD p mb (xs.drop i) e' g') (KS C F D) (KXS C)
  refine ⟨fun i m σ' H' => m = xs.length - i ∧ i ≤ xs.length ∧ N i σ' H', ⟨_, rfl, Nat.zero_le _, F1, l1, env1, g1, .refl _, R1, w⟩, ?_⟩
  rintro i m σ' H' ⟨rfl, hle, F', l', e', g', sF, R', w⟩
  by_cases hlt : i < xs.length
  · refine .inr ⟨W1.go F' H' i sF R'.sub hlt, N (i + 1), fun σ2 H2 q => ⟨_, by omega, rfl, hlt, q⟩, fun x H2 y => ?_⟩
    obtain ⟨F2, d, hd, nw2⟩ := W1.yl F' H' i x H2 sF R'.sub hlt y
    obtain ⟨R3, x3, r3⟩ := R'.new nw2
    rw [drop_get hd] at w
    unfold forD at w
    cases ha : asg p d e' with
    | none => rw [ha] at w; exact w.elim
    | some e1 =>
      rw [ha] at w
      refine hg σ' F2 H2 l' e' e1 g' x d _ R3 r3 ha fun σ2 R4 off ow => ?_
      refine hb σ2 F2 H2 l' e1 g' { D with nx := N (i + 1), ct := N (i + 1), bk := D.nx } R4 (Wp.mono (Wp.bind.mp w) (fun fl e5 g5 w σ5 F5 H5 l5 R5 s5 => ?_) fun _ _ _ _ w => w)
      have s15 := (sF.trans nw2.fs).trans s5
      cases fl with
      | nx => exact ⟨F5, l5, e5, g5, s15, R5, w⟩
      | ct => exact ⟨F5, l5, e5, g5, s15, R5, w⟩
      | bk => exact w σ5 F5 H5 l5 R5 (x1.fs.trans s15)
      | rt v => exact w σ5 F5 H5 l5 R5 (x1.fs.trans s15)
  · have e : i = xs.length := by omega
    subst e
    refine .inl ⟨W1.st F' H' sF R'.sub, ?_⟩
    rw [List.drop_length] at w
    exact w σ' F' H' l' R' (x1.fs.trans sF)
theorem ds_for {tg iter : Expr} {body : List Stmt} {p : Pat} {mi : M (List PyData)} {mb : M Fl} (hp : PassesOwn (model X.prog X.w) X.A X.env X.xe) (hc : X.calm = true) (hi : DI X C tg iter mi) (hg : DG X C tg p) (hb : DSs X C body mb)
    (hs : ∀ x, foldedSetIterable iter X.env x = pure x := by intro _; rfl) : DS X C (.For tg iter body [] pos) (mFor p mi mb) := by
  refine ⟨fun hK => ?_⟩
  obtain ⟨wi, h1, s1⟩ := hi.run hK
  obtain ⟨gt, h2, s2⟩ := hg.run hK
  obtain ⟨tb, h3, s3⟩ := hb.run hK
  exact ⟨_, ps_for hp hc h1 h2 h3 hs, simFor s1 s2 s3⟩
theorem simWhile {tc : TT} {tb : TS} {mt : M Bool} {mb : M Fl} {n : Nat} (ht : SimT C tc mt) (hb : SimS C tb mb) : SimS C (tWhile tc tb) (whileD mt mb n) := by
  intro σ F H l env g D R w
  let N : Nat → L2.St → Hp → Prop := fun m σ' H' => ∃ (F' : Hp) (l' : Loc) (e' : Env') (g' : G), Same F F' ∧ Rel C σ' F' H' l' e' g' ∧ Wp (whileD mt mb m e' g') (KS C F D) (KXS C)
  refine ⟨N, ⟨n, F, l, env, g, .refl _, R, w⟩, ?_⟩
  rintro m σ' H' ⟨F', l', e', g', sF, R', w⟩
  cases m with
  | zero => exact w.elim
  | succ m =>
    refine ht σ' F' H' l' e' g' _ R' (Wp.mono (Wp.bind.mp w).xs (fun b env1 g1 w F1 H1 l1 R1 x1 => ?_) fun _ _ _ _ w => w)
    cases b with
    | false =>
      rw [if_neg Bool.false_ne_true]
      exact w σ' F1 H1 l1 R1 (sF.trans x1.fs)
    | true =>
      rw [if_pos rfl]
      refine ⟨N m, fun σ2 H2 q => ⟨m, Nat.lt_succ_self _, q⟩, ?_⟩
      rw [if_pos rfl] at w
      refine hb σ' F1 H1 l1 env1 g1 { D with nx := N m, ct := N m, bk := D.nx } R1 (Wp.mono (Wp.bind.mp w) (fun fl e5 g5 w σ5 F5 H5 l5 R5 s5 => ?_) fun _ _ _ _ w => w)
      have s15 := (sF.trans x1.fs).trans s5
      cases fl with
      | nx => exact ⟨F5, l5, e5, g5, s15, R5, w⟩
      | ct => exact ⟨F5, l5, e5, g5, s15, R5, w⟩
      | bk => exact w σ5 F5 H5 l5 R5 s15
      | rt v => exact w σ5 F5 H5 l5 R5 s15
theorem ds_while {c : Expr} {body : List Stmt} {mt : M Bool} {mb : M Fl} (n : Nat) (hp : PassesOwn (model X.prog X.w) X.A X.env X.xe) (hc : DT X C c mt) (hb : DSs X C body mb) : DS X C (.While c body [] pos) (whileD mt mb n) := by
  refine ⟨fun hK => ?_⟩
  obtain ⟨tc, h1, s1⟩ := hc.run hK
  obtain ⟨tb, h3, s3⟩ := hb.run hK
  exact ⟨_, ps_while hp h1 h3, simWhile s1 s3⟩
end
end DL
namespace DL
open PySem L2
/-! ### defs -/
abbrev FM := List EV → G → R EV
abbrev CXN : CXT := fun _ _ _ _ _ _ => False
abbrev XN : XK := fun _ _ _ => False
def ArgRep (K : PySem.W.Frag) (F : Hp) (l : Loc) (v : V) : EV → Prop
  | .d x => Rep K F v x
  | .src b => ∃ d c, l = some (d, c) ∧ v = V.ref (if b then c else d)
  | .scr ns => ∃ a, v = V.ref a ∧ SqL K F a (ns.map V.int)
  | _ => False
/-- what holds behind a call -/
structure Back (K : PySem.W.Frag) (F H : Hp) (l : Loc) (v : V) (F' H' : Hp) (l' : Loc) (ev : EV) (g' : G) : Prop where
  fs : Same F F'
  sub : Same F' H'
  old : ∀ a o, H a = some o → ¬ SrcAt l a → H' a = some o
  oldd : ∀ a, H a ≠ none → H' a ≠ none
  fo : ∀ a, F' a ≠ none → F a ≠ none ∨ H a = none ∨ (TupAt H a ∧ ¬ SrcAt l a)
  lo : ∀ a, SrcAt l' a → SrcAt l a ∨ H a = none
  l0 : ∀ p, l = some p → l' = some p
  src : SrcRep F' H' l' g'
  res : match ev with
    | .d x => Rep K F' v x
    | .fr x => ∃ a, v = V.ref a ∧ OwnRep K F' H' a x ∧ F' a = none ∧ H a = none ∧ ¬ SrcAt l' a
    | .src b => ∃ d c, l' = some (d, c) ∧ v = V.ref (if b then c else d)
    | _ => False
def WpF (r : R EV) (K : EV → G → Prop) : Prop := Wp r (fun ev _ g' => K ev g') fun _ _ _ _ => False
theorem WpF.mono {r : R EV} {K K' : EV → G → Prop} (h : WpF r K) (hk : ∀ ev g, K ev g → K' ev g) : WpF r K' := Wp.mono h (fun _ _ _ w => hk _ _ w) fun _ _ _ _ w => w
structure FnD (P : Program) (w : World) (K : PySem.W.Frag) (mg : Str → Option Value) (base : Heap) (k : Nat) (f : Addr) (fd : FuncData) (ps : List Str) (fm : FM) : Prop where
  run : ∀ (A : Around) (outer : List Env) (s : Shared) (H F : Hp) (l : Loc) (g : G) (args : Args) (us : List Value) (vs : List V) (evs : List EV) (Q : VK), Room k A → A.guards = some [] → Env0 P w K mg base A outer s H → BindsTo s fd args (ps.zip us) → Vals vs us → vs.length = ps.length →
    Same F H → SrcRep F H l g → Paired (ArgRep K F l) vs evs → WpF (fm evs g) (fun ev g' => ∀ v F' H' l', Back K F H l v F' H' l' ev g' → Q v H') → codeAny (model P w) A (.call (.ref f) args) (CR CXN outer P w H s Q XN) s
theorem FnD.mono {P : Program} {w : World} {K : PySem.W.Frag} {mg : Str → Option Value} {base : Heap} {j k : Nat} {f : Addr} {fd : FuncData} {ps : List Str} {fm : FM} (h : FnD P w K mg base j f fd ps fm) (e : j ≤ k) : FnD P w K mg base k f fd ps fm :=
  ⟨fun A outer s H F l g args us vs evs Q hr => h.run A outer s H F l g args us vs evs Q (hr.mono e)⟩
/-- nothing is promised -/
theorem FnD.bad {P : Program} {w : World} {K : PySem.W.Frag} {mg : Str → Option Value} {base : Heap} {k : Nat} {f : Addr} {fd : FuncData} {ps : List Str} : FnD P w K mg base k f fd ps fun _ _ => .bad :=
  ⟨fun A outer s H F l g args us vs evs Q _ _ _ _ _ _ _ _ _ h => h.elim⟩
/-- another mirror that tells no more -/
theorem FnD.imp {P : Program} {w : World} {K : PySem.W.Frag} {mg : Str → Option Value} {base : Heap} {k : Nat} {f : Addr} {fd : FuncData} {ps : List Str} {fm fm' : FM} (h : FnD P w K mg base k f fd ps fm) (e : ∀ evs g (Q : EV → G → Prop), WpF (fm' evs g) Q → WpF (fm evs g) Q) : FnD P w K mg base k f fd ps fm' :=
  ⟨fun A outer s H F l g args us vs evs Q hr hg e0 hb hv hl hs hS ha hw => h.run A outer s H F l g args us vs evs Q hr hg e0 hb hv hl hs hS ha (e _ _ _ hw)⟩
def isArg : EV → Bool
  | .d _ => true
  | .src _ => true
  | .scr _ => true
  | _ => false
def mCall (n : Nat) (fm : FM) (m : M (List EV)) : M EV := m.bind fun evs => fun env g => if evs.all isArg = true ∧ evs.length = n then (match fm evs g with
    | .ok ev _ g' => .ok ev env g'
    | _ => .bad) else .bad
theorem paired_len {α β : Type} {P : α → β → Prop} : ∀ {xs : List α} {ys : List β}, Paired P xs ys → xs.length = ys.length
  | _, _, .nil => rfl
  | _, _, .cons _ t => by simp [paired_len t]
theorem args_of {C : DCx} {σ : L2.St} {F H H0 : Hp} {l : Loc} {env : Env'} : ∀ {evs : List EV} {vs : List V}, Paired (fun v ev => RepEV C σ F H l env v ev ∧ FreshAt H0 v ev) vs evs → evs.all isArg = true → Paired (ArgRep C.K F l) vs evs
  | [], _, .nil, _ => .nil
  | ev :: evs, _, .cons r t, h => by
    rw [List.all_cons, Bool.and_eq_true] at h
    refine .cons ?_ (args_of t h.2)
    cases ev with
    | d x => exact r.1
    | src b => exact r.1
    | scr ns => exact r.1
    | _ => exact absurd h.1 (by simp [isArg])
/-- behind a call, in the caller's body -/
theorem Rel.after {C : DCx} {σ : L2.St} {F H F' H' : Hp} {l l' : Loc} {env : Env'} {g g' : G} {v : V} {ev : EV} (R : Rel C σ F H l env g) (b : Back C.K F H l v F' H' l' ev g') :
    Rel C σ F' H' l' env g' ∧ Ext σ F H l env F' H' l' env ∧ RepEV C σ F' H' l' env v ev ∧ FreshAt H v ev := by
  have nh : ∀ {a : Addr}, H a = none → C.H0 a = none := fun {a} h => none_of_none R.oldd h
  have own : ∀ {i : Nat} {x : PyData}, env[i]? = some (.own x) → ∃ a, σ[i]? = some (some (V.ref a)) ∧ OwnRep C.K F' H' a x ∧ F' a = none ∧ C.H0 a = none ∧ ¬ SrcAt l' a := fun {i x} e => by
    obtain ⟨a, h1, h2, h3, h4, h5⟩ := R.own i x e
    obtain ⟨o, ho⟩ := h2.some
    refine ⟨a, h1, h2.up b.fs fun u q => b.old a u q h5, Classical.byContradiction fun z => ?_, h4, fun z => ?_⟩
    · rcases b.fo a z with q | q | ⟨q, _⟩
      · exact q h3
      · rw [ho] at q; cases q
      · exact h2.notTup q
    · rcases b.lo a z with q | q
      · exact h5 q
      · rw [ho] at q; cases q
  refine ⟨⟨b.sub, R.len, fun i x e => ?_, fun i x e => own e, R.inj, fun i ns e => ?_, fun i z e => ?_, b.src, fun a o e n => ?_, fun a e => b.oldd a (R.oldd a e), R.f0.trans b.fs, fun a e => ?_, fun a e => ?_, fun p e => b.l0 p (R.l0 p e)⟩,
    ⟨b.fs, b.oldd, fun a o e _ n => b.old a o e n, fun a e => (b.fo a e).elim .inl fun z => z.elim (fun z => .inr (.inl z)) fun z => .inr (.inr (.inr z)), fun _ e => e, b.l0, b.lo⟩, ?_, ?_⟩
  · obtain ⟨u, h1, h2⟩ := R.dat i x e
    exact ⟨u, h1, Rep.up b.fs _ _ h2⟩
  · obtain ⟨a, h1, h2⟩ := R.iscr i ns e
    exact ⟨a, h1, b.fs.seq h2⟩
  · obtain ⟨d, c, h1, h2⟩ := R.isrc i _ e
    exact ⟨d, c, b.l0 _ h1, h2⟩
  · refine b.old a o (R.old a o e n) fun z => ?_
    rcases R.lo a z with q | q
    · exact n q
    · rw [e] at q; cases q
  · rcases b.fo a e with q | q | q
    · exact R.fo a q
    · exact .inr (.inl (nh q))
    · exact R.foT q.1
  · rcases b.lo a e with q | q
    · exact R.lo a q
    · exact .inr (nh q)
  · have r := b.res
    cases ev with
    | d x => exact r
    | fr x =>
      obtain ⟨a, h1, h2, h3, h4, h5⟩ := r
      refine ⟨a, h1, h2, h3, nh h4, h5, fun z => ?_⟩
      obtain ⟨_, _, _, o, ho⟩ := R.ownF z
      rw [h4] at ho; cases ho
    | src z => exact r
    | _ => exact r.elim
  · have r := b.res
    cases ev with
    | fr x =>
      obtain ⟨a, h1, h2, h3, h4, h5⟩ := r
      intro q e
      rw [h1] at e
      cases e
      exact h4
    | _ => trivial
def tFn (K : PySem.W.Frag) (n : Nat) (fm : FM) (t : TA) : TE := fun σ H Q => t σ H fun vs H1 => ∃ F l g evs, vs.length = n ∧ Same F H1 ∧ SrcRep F H1 l g ∧ Paired (ArgRep K F l) vs evs ∧
  WpF (fm evs g) fun ev g' => ∀ v F' H' l', Back K F H1 l v F' H' l' ev g' → Q v H'
section
variable {X : Cx} {C : DCx} {k : Nat} {f : Addr} {fd : FuncData} {ps : List Str} {fm : FM} {x : Str} {p pos : Pos} {e : Expr} {es : List Expr}
theorem simFn {n : Nat} {t : TA} {m : M (List EV)} (s : SimA C t m) : SimE C (tFn C.K n fm t) (mCall n fm m) := by
  intro σ F H l env g Q R w
  refine s σ F H l env g _ R (Wp.mono (Wp.bind.mp w) (fun evs env1 g1 w vs F1 H1 l1 R1 x1 r1 => ?_) fun _ _ _ _ w => w)
  obtain ⟨⟨ha, hn⟩, w⟩ := wp_iteR w
  refine ⟨F1, l1, g1, evs, by rw [paired_len r1]; exact hn, R1.sub, R1.src, args_of r1 ha, ?_⟩
  cases q : fm evs g1 with
  | bad => rw [q] at w; exact w.elim
  | exc c y e' g' => rw [q] at w; exact w.elim
  | ok ev e' g' =>
    rw [q] at w
    intro v F' H' l' b
    obtain ⟨R2, x2, r2, f2⟩ := R1.after b
    exact w v F' H' l' R2 (x1.trans (C := C) x2) r2 (f2.dn x1.hd)
theorem pe_fn {t : TA} (Fd : FnD X.prog X.w X.K X.mg X.base k f fd ps fm) (hr : Room k X.A) (hgd : X.A.guards = some []) (hg : Gl X x) (hm : X.mg x = some (.ref f)) (hk : PySem.W.keepIn X.K (.ref f) = true) (hb : Binds X.K fd ps [])
    (ha : PA X (e :: es) t) (hdb : (x == ("__debug__" : Str)) = false := by decide) (he : starEach (e :: es) X.env = (false, eval e X.env) :: starEach es X.env := by rfl) (hpl : (backTo pos (starEach es X.env)).any (·.1) = false := by rfl) :
    PE X (.Call (.Name x p) (e :: es) [] pos) (tFn X.K ps.length fm t) := by
  refine ⟨fun pins s σ H Q I h => ?_⟩
  refine wpAny_Call_Name_kw (ld_glob I hg hm ?_ hdb)
  refine PySem.W.callWith_K (h₀ := X.base) I.ok.mod.kin hk (thn (ha.run pos pins s σ H _ I h) fun us s1 ⟨vs, H1, I1, r, F, l, g, evs, hn, hs, hS, hA, w⟩ => ⟨I1.kIn, ?_⟩) he hpl
  have hu : (us ++ []).length = ps.length := by rw [List.append_nil, ← r.length]; exact hn
  have b := hb s1 us I1.kIn hu
  rw [List.append_nil] at b
  refine wpAny_call (codeAny_mono (Fd.run X.A X.stack s1 H1 F l g ⟨us, []⟩ us vs evs Q hr hgd I1.env0 b r hn hs hS hA w) fun r s' hq => ?_)
  cases r with
  | error e => exact False.elim hq
  | ok fl =>
    cases fl with
    | ret u => exact I1.after hq
    | next => exact False.elim hq
    | brk => exact False.elim hq
    | cont => exact False.elim hq
theorem de_call {m : M (List EV)} (Fd : FnD X.prog X.w X.K X.mg X.base k f fd ps fm) (hr : Room k X.A) (hgd : X.A.guards = some []) (hg : Gl X x) (hm : X.mg x = some (.ref f)) (hk : PySem.W.keepIn X.K (.ref f) = true) (hb : Binds X.K fd ps [])
    (ha : DA X C (e :: es) m) (hdb : (x == ("__debug__" : Str)) = false := by decide) (he : starEach (e :: es) X.env = (false, eval e X.env) :: starEach es X.env := by rfl) (hpl : (backTo pos (starEach es X.env)).any (·.1) = false := by rfl) :
    DE X C (.Call (.Name x p) (e :: es) [] pos) (mCall ps.length fm m) := by
  refine ⟨fun hK => ?_⟩
  obtain ⟨t, h1, s1⟩ := ha.run hK
  refine ⟨_, pe_fn Fd hr hgd hg hm hk hb h1 hdb he hpl, ?_⟩
  rw [← hK]
  exact simFn s1
end
/-! ### a def's body -/
def slotArg : EV → Slot
  | .d x => .d x
  | .src b => .src b
  | .scr ns => .scr ns
  | _ => .un
def startE (n : Nat) (evs : List EV) : Env' := evs.map slotArg ++ List.replicate (n - evs.length) .un
def bodyRun (n : Nat) (mb : M Fl) : FM := fun evs g => match mb (startE n evs) g with
  | .ok (.rt (.bo _)) _ _ => .bad
  | .ok (.rt (.scr _)) _ _ => .bad
  | .ok (.rt ev) _ g' => .ok ev [] g'
  | .ok .nx _ g' => .ok (.d .none) [] g'
  | _ => .bad
def cIn (K : PySem.W.Frag) (F H : Hp) (l : Loc) : DCx := ⟨K, F, H, l, fun _ _ _ _ => False, fun _ _ _ _ _ _ => False⟩
theorem startGet {K : PySem.W.Frag} {F : Hp} {l : Loc} : ∀ {evs : List EV} {vs : List V}, Paired (ArgRep K F l) vs evs → ∀ (i : Nat) (s : Slot), (evs.map slotArg)[i]? = some s → ∃ v ev, vs[i]? = some v ∧ s = slotArg ev ∧ ArgRep K F l v ev
  | _, _, .nil, i, s, h => by simp at h
  | ev :: evs, v :: vs, .cons r t, 0, s, h => by
    simp at h
    exact ⟨v, ev, rfl, h.symm, r⟩
  | ev :: evs, v :: vs, .cons r t, i + 1, s, h => by
    obtain ⟨v', ev', h1, h2, h3⟩ := startGet t i s (by simpa using h)
    exact ⟨v', ev', by simpa using h1, h2, h3⟩
theorem rel_start {K : PySem.W.Frag} {F H : Hp} {l : Loc} {g : G} {N : List Str} {evs : List EV} {vs : List V} (hs : Same F H) (hS : SrcRep F H l g) (ha : Paired (ArgRep K F l) vs evs) (hl : vs.length ≤ N.length) :
    Rel (cIn K F H l) (L2.start N vs) F H l (startE N.length evs) g := by
  have hle := paired_len ha
  have at_ : ∀ {i : Nat} {s : Slot}, (startE N.length evs)[i]? = some s → s ≠ .un → ∃ v ev, (L2.start N vs)[i]? = some (some v) ∧ s = slotArg ev ∧ ArgRep K F l v ev := fun {i s} h n => by
    unfold startE at h
    by_cases hi : i < evs.length
    · rw [List.getElem?_append_left (by simpa using hi)] at h
      obtain ⟨v, ev, h1, h2, h3⟩ := startGet ha i s h
      refine ⟨v, ev, ?_, h2, h3⟩
      unfold L2.start
      rw [List.getElem?_append_left (by rw [List.length_map, hle]; exact hi), List.getElem?_map, h1]
      rfl
    · rw [List.getElem?_append_right (by simpa using hi), List.getElem?_replicate] at h
      split at h
      · cases h; exact absurd rfl n
      · cases h
  have no : ∀ {i : Nat} {x : PyData}, (startE N.length evs)[i]? ≠ some (.own x) := fun {i x} h => by
    obtain ⟨v, ev, _, h2, h3⟩ := at_ h (by simp)
    cases ev <;> simp [slotArg] at h2
  refine ⟨hs, ?_, fun i x h => ?_, fun i x h => absurd h no, fun i j x y a h => absurd h no, fun i ns h => ?_, fun i bb h => ?_, hS, fun a o e _ => e, fun a e => e, .refl _, fun a e => .inl e, fun a e => .inl e, fun p e => e⟩
  · unfold L2.start startE
    simp [hle]
  · obtain ⟨v, ev, h1, h2, h3⟩ := at_ h (by simp)
    cases ev <;> simp [slotArg] at h2
    subst h2
    exact ⟨v, h1, h3⟩
  · obtain ⟨v, ev, h1, h2, h3⟩ := at_ h (by simp)
    cases ev <;> simp [slotArg] at h2
    subst h2
    obtain ⟨a, rfl, q⟩ := h3
    exact ⟨a, h1, q⟩
  · obtain ⟨v, ev, h1, h2, h3⟩ := at_ h (by simp)
    cases ev <;> simp [slotArg] at h2
    subst h2
    obtain ⟨d, c, e, rfl⟩ := h3
    exact ⟨d, c, e, h1⟩
open PySem.Spec PyProof.Rows in
/-- THE RULE: a def keeps what its body's mirror tells -/
theorem fnd_of {P : Program} {w : World} {K : PySem.W.Frag} {mg : Str → Option Value} {base : Heap} {k : Nat} {f : Addr} {name qual : Str} {params : Arguments} {body : List Stmt} {scope : Scope} {dV kV doc pm cdv ct oc : Value} {an od : Option Addr}
    {osl : Array (Option Value)} {N ps : List Str} {mb : M Fl} (lk : K.lookup f = some ⟨oc, od, .func (PySem.W.fnOf name qual params body scope dV kV doc pm an cdv ct), osl⟩) (hcd : PySem.W.codeIn K cdv qual = true) (S : FnScope N ps scope)
    (hbody : ∀ (A : Around) (outer : List Env) (s : Shared) (H F : Hp) (l : Loc), Room k (A.deeper (envOfC qual scope s.heap.objs.size f cdv)) → A.guards = some [] →
      DSs (cxOf CXN P w K mg base N qual scope f cdv A outer s H XN).nox (cIn K F H l) body mb) :
    FnD P w K mg base (k + 1) f (PySem.W.fnOf name qual params body scope dV kV doc pm an cdv ct) ps (bodyRun N.length mb) := by
  refine ⟨fun A outer s H F l g args us vs evs Q hr hgd e0 hb r hl hs hS ha hw => ?_⟩
  have KX : K.In s.heap := e0.mod.kin.keeps fun b o e => (e0.bs b o e).1
  have lim : s.heap.NoLimit := e0.mod.nolimit.keeps fun b o e => (e0.bs b o e).1
  have hpl : ps.length ≤ N.length := by
    have := congrArg List.length S.pre
    rw [List.length_take] at this
    omega
  have hkind : ∀ y ∈ ps.zip us, scope.names.lookup y.1 = some .local ∨ (scope.names.lookup y.1 = some .cell ∧ ((cellsFrom (s.heap.objs.size + 1) scope.names []).lookup y.1).isSome = true) := by
    rintro ⟨n, v⟩ hy
    exact (S.par n (List.of_mem_zip hy).1).elim .inl fun q => .inr ⟨q, PySem.W.cellsFrom_some _ _ _ (.inl q)⟩
  refine codeAny_call_function hr.depth (KX _ _ lk) rfl S.co S.gen rfl (PySem.W.codeRec_of KX hcd) (hb _ _ _ _ ?_)
  refine wpAny_newFunctionEnv_cells S.kind hkind fun env he s1 x => ?_
  subst he
  refine ⟨lim.keeps x.toInCall.keep, codeAny_func ?_⟩
  obtain ⟨t, ht, sim⟩ := (hbody A outer s H F l (hr.deeper _) hgd).run rfl
  have I := inv_start (CX := CXN) (P := P) (w := w) (base := base) (N := N) (qual := qual) (f := f) (cd := cdv) (E := XN) S hr.hd e0 hl r x
  have R0 := rel_start (N := N) hs hS ha (by rw [hl]; exact hpl)
  have go : t { nx := fun _ H' => Q .non H', rt := Q } (L2.start N vs) H := by
    refine sim _ F H l _ g _ R0 ?_
    unfold bodyRun at hw
    have fin : ∀ {σ' : L2.St} {F' H' : Hp} {l' : Loc} {env' : Env'} {g' : G} {ev : EV} {v : V}, Rel (cIn K F H l) σ' F' H' l' env' g' → RepEV (cIn K F H l) σ' F' H' l' env' v ev → (∀ i, ev ≠ .bo i) → (∀ ns, ev ≠ .scr ns) → Back K F H l v F' H' l' ev g' := fun {σ' F' H' l' env' g' ev v} R r nb ns => by
      refine ⟨R.f0, R.sub, R.old, R.oldd, R.fo, R.lo, R.l0, R.src, ?_⟩
      cases ev with
      | d y => exact r
      | fr y =>
        obtain ⟨a, h1, h2, h3, h4, h5, h6⟩ := r
        exact ⟨a, h1, h2, h3, h4, h5⟩
      | src z => exact r
      | bo i => exact absurd rfl (nb i)
      | scr m => exact absurd rfl (ns m)
    cases q : mb (startE N.length evs) g with
    | bad => rw [q] at hw; exact hw.elim
    | exc c y e' g' => rw [q] at hw; exact hw.elim
    | ok fl e' g' =>
      rw [q] at hw
      cases fl with
      | nx => exact fun σ' F' H' l' R _ => hw V.non F' H' l' (fin R RepEV.ofn nofun nofun)
      | bk => exact hw.elim
      | ct => exact hw.elim
      | rt ev =>
        cases ev with
        | bo i => exact hw.elim
        | scr m => exact hw.elim
        | _ => exact fun σ' F' H' l' R _ v r => hw v F' H' l' (fin R r nofun nofun)
  refine wpAny_mono (ht.nox.run [] s1 (L2.start N vs) H _ I go) (fun fl s' hq => ?_) fun e s' hq => hq
  cases fl with
  | ret u =>
    obtain ⟨v, σ', H', J, rv, q⟩ := hq
    exact ⟨v, H', J.os, J.bare, J.base, J.hok, rv, q⟩
  | next =>
    obtain ⟨σ', H', J, q⟩ := hq
    exact ⟨V.non, H', J.os, J.bare, J.base, J.hok, rfl, q⟩
  | brk =>
    obtain ⟨_, _, _, q⟩ := hq
    exact False.elim q
  | cont =>
    obtain ⟨_, _, _, q⟩ := hq
    exact False.elim q
end DL
namespace DL
open PySem L2
/-! ### the law's own call -/
/-- a dict stands where the modules' table is -/
def SysAt (h : Heap) : Prop := ∃ o es ep, h.get? sysModules = some o ∧ o.data = .dict es ep
theorem SysAt.of {h : Heap} (n : h.NoSeer) : SysAt h := let ⟨_, ⟨o, es, ep, e, d, _⟩, _⟩ := n.mods; ⟨o, es, ep, e, d⟩
section
open PySem.Spec PyProof.Rows
theorem law_callD {P : Program} {w : World} {K : PySem.W.Frag} {mg mb : Str → Option Value} {k : Nat} {fa a : Addr} {fd : FuncData} {x : Str} {fm : FM} {s₁ : Shared} {vs : List Value} {ns : List Int}
    (KX : K.In s₁.heap) (hns : s₁.heap.Ns mainGlobals mg) (hb : s₁.heap.Ns builtinsNs mb) (hbb : ∀ x : Str, x ≠ "__name__" → mb x = bootBuiltins x) (hlim : s₁.heap.NoLimit) (hsys : SysAt s₁.heap) (hg : s₁.gens = #[])
    (ha : s₁.heap.get? a = some { cls := .type "list", data := .seq vs.toArray }) (hi : IntsAre vs ns) (hl : ns.length ≤ sizeLine) (hr : Room k callerA)
    (Fd : ∀ base : Heap, K.In base → base.Ns mainGlobals mg → SysAt base → FnD P w K mg base k fa fd [x] fm) (hbind : ∀ (s : Shared) (u : Value), BindsTo s fd ⟨[u], []⟩ [(x, u)])
    (hw : WpF (fm [.scr ns] none) fun ev _ => ev = .d (.bool true)) :
    codeAny (model P w) callerA (.call (.ref fa) ⟨[.ref a], []⟩) (fun r s' => r = .ok (.ret (.bool true)) ∧ OldK s₁.heap s'.heap ∧ s'.os = s₁.os ∧ AllBare s'.gens) s₁ := by
  have rv := vals_ints hi
  have lenV := hi.length
  have core : ∀ H : Hp, Only H → SqL K H a (ns.map V.int) → HOk P w H s₁.heap → (∀ b, H b ≠ none → b = a) → (H a ≠ none → K.lookup a = none) →
      codeAny (model P w) callerA (.call (.ref fa) ⟨[.ref a], []⟩) (fun r s' => r = .ok (.ret (.bool true)) ∧ OldK s₁.heap s'.heap ∧ s'.os = s₁.os ∧ AllBare s'.gens) s₁ := by
    intro H hO hS hok hA hK
    have stay : ∀ {b : Addr} {o : Obj}, s₁.heap.get? b = some o → H b = none → (hidT s₁.heap H).get? b = some o := fun e n => hidT_get e n
    have noD : ∀ {b : Addr} {o : Obj} {es : Array DictEntry} {ep : Nat}, s₁.heap.get? b = some o → o.data = .dict es ep → H b = none := fun {b o es ep} e d => by
      refine Classical.byContradiction fun z => ?_
      have e' := hA b z
      subst e'
      rw [ha] at e
      cases e
      exact nomatch (show Data.seq vs.toArray _ = Data.dict es ep from d)
    have nsD : ∀ {b : Addr} {m : Str → Option Value}, s₁.heap.Ns b m → (hidT s₁.heap H).Ns b m := fun {b m} q => by
      obtain ⟨o, es, ep, e, d, r⟩ := q
      exact ⟨o, es, ep, stay e (noD e d), d, r⟩
    have inK : K.In (hidT s₁.heap H) := fun b o e => stay (KX b o e) (Classical.byContradiction fun z => by
      have e' := hA b z
      subst e'
      rw [hK z] at e
      cases e)
    have hM : Mod K mg (hidT s₁.heap H) := ⟨inK, nsD hns, ⟨mb, nsD hb, hbb⟩, let ⟨mc, h1, h2⟩ := hlim; ⟨mc, nsD h1, h2⟩⟩
    have hSy : SysAt (hidT s₁.heap H) := by
      obtain ⟨o, es, ep, e, d⟩ := hsys
      exact ⟨o, es, ep, stay e (noD e d), d⟩
    have e0 : Env0 P w K mg (hidT s₁.heap H) callerA [] s₁ H := ⟨rfl, hM, fun b o e => of_hidT e, Nat.le_of_eq (hidT_size _ _), trivial, fun b hb => absurd (show b ∈ ([] : List Addr) from hb) (by simp), hok, .of_eq hg⟩
    refine codeAny_mono ((Fd _ inK (nsD hns) hSy).run callerA [] s₁ H H none none ⟨[.ref a], []⟩ [.ref a] [.ref a] [.scr ns] (fun v _ => v = .bl true) hr rfl e0 (hbind s₁ (.ref a)) (.cons rfl .nil) rfl (.refl _) trivial (.cons ⟨a, rfl, hS⟩ .nil)
      (hw.mono fun ev g e v F' H' l' b => by subst e; exact rep_bool.mp b.res)) fun r s' h => ?_
    cases r with
    | error e => exact False.elim h
    | ok fl =>
      cases fl with
      | next => exact False.elim h
      | brk => exact False.elim h
      | cont => exact False.elim h
      | ret u =>
        obtain ⟨v, H', os, bare, un, hok', r', q⟩ := h
        have q' : v = .bl true := q
        subst q'
        obtain rfl : u = Value.bool true := r'
        refine ⟨rfl, OldK.of_keep fun b o e => ?_, os, bare⟩
        rcases hO b with z | ⟨ob, xs, z⟩
        · exact un.keep b o e z (fun z => nomatch (show b ∈ ([] : List Addr) from z)) (by simp)
        · obtain ⟨e1, _⟩ := hok b _ z
          obtain ⟨e2, _⟩ := hok' b _ (un.frzs b ob _ z)
          rw [e] at e1
          cases e1
          exact e2
  cases hk : K.lookup a with
  | some o =>
    have e := KX a o hk
    rw [ha] at e
    cases e
    exact core (fun _ => none) (fun _ => .inl rfl) (.inr ⟨_, vs.toArray, _, hk, rfl, rfl, rfl, by rw [List.size_toArray, lenV]; exact hl, by simpa using rv⟩) (fun b u z => nomatch (show (none : Option HO) = some u from z)) (fun b z => absurd rfl z) fun z => absurd rfl z
  | none =>
    let H1 : Hp := fun b => if b = a then some (.frz { cls := .type "list", data := .seq vs.toArray } (.lst (ns.map V.int))) else none
    have at_ : H1 a = some (.frz { cls := .type "list", data := .seq vs.toArray } (.lst (ns.map V.int))) := if_pos rfl
    have off : ∀ {b : Addr}, b ≠ a → H1 b = none := fun h => if_neg h
    refine core H1 (fun b => ?_) (.inl (.inr ⟨_, at_⟩)) (fun b u z => ?_) (fun b z => Classical.byContradiction fun h => z (off h)) fun _ => hk
    · by_cases hb : b = a
      · subst hb; exact .inr ⟨_, _, at_⟩
      · exact .inl (off hb)
    · by_cases hb : b = a
      · subst hb
        rw [at_] at z
        cases z
        exact ⟨ha, by rw [List.length_map]; exact hl, vs, _, rv, ha⟩
      · rw [off hb] at z
        cases z
/-- the head's last goal -/
theorem walk_ofD {l : PySem.W.OpenLaw} {n k : Nat} {q : Program} {loose : List Str} {XP : (Str → Option Value) → Heap → Prop} {YP : World → Heap → Prop} {d : DefRec} {K : Params → PySem.W.Frag} {fm : FM} {x : Str}
    (hn : l.most = some n) (hn2 : n ≤ sizeLine) (hdf : d.params.defaults = []) (hr : Room k callerA) (hi : importsNone q = true)
    (hY : ∀ (w : World) (h : Heap), YP w h → (K w.params).In h)
    (Fd : ∀ (w : World) (mg : Str → Option Value) (fa : Addr) (h : Heap), (K w.params).In h → h.Ns mainGlobals mg → mg d.name = some (.ref fa) →
      ∃ fd : FuncData, (∀ (s : Shared) (u : Value), BindsTo s fd ⟨[u], []⟩ [(x, u)]) ∧
        ∀ base : Heap, (K w.params).In base → base.Ns mainGlobals mg → SysAt base → FnD l.prog w (K w.params) mg base k fa fd [x] fm)
    (hw : ∀ ns : List Int, ns.length ≤ n → (∀ z ∈ ns, Builtin.Int.intBits z ≤ 1048576) → WpF (fm [.scr ns] none) fun ev _ => ev = .d (.bool true)) :
    PySem.W.WalkO q loose XP YP l.row.toRowW d [] (fun f vs => PySem.call f vs) := by
  refine Att.attach_callB hn hdf fun w s₀ s₁ mg mb fa o pm cd doc a vs ns G Y ho hd hcd hmg hobj hints hlen hbits hg => ?_
  have KX := hY w _ Y
  obtain ⟨fd, hb, hF⟩ := Fd w mg fa _ KX G.T.g hmg
  exact law_callD KX G.T.g G.T.b G.T.builtins G.T.nolimit (SysAt.of (G.T.seer hi)) hg hobj hints (Nat.le_trans hlen hn2) hr hF hb (hw ns hlen hbits)
end
/-! ### repr -/
section
variable {X : Cx} {pins : List (Addr × Obj)} {σ : L2.St} {H F : Hp} {s : Shared}
theorem noSys_seq (I : Inv X pins σ H s) (hy : SysAt X.base) {a : Addr} {o : Obj} {xs : Array Value} {n : Nat} (e : s.heap.get? a = some o) (d : o.data = .seq xs n) : a ≠ sysModules := by
  rintro rfl
  obtain ⟨o', es, ep, e', d'⟩ := hy
  rw [I.bk _ _ e'] at e
  cases e
  rw [d] at d'
  cases d'
theorem keys_as {h : Heap} : ∀ {vs : List Value} {ds : List PyData} {as : List Addr}, ReadsAll h vs ds as → (∀ d ∈ ds, (∃ i, d = .int i) ∨ ∃ x, d = .str x) → as = []
  | _, _, _, .nil, _ => rfl
  | _, _, _, .cons h t, k => by
    have t' := keys_as t fun d hd => k d (List.mem_cons_of_mem _ hd)
    rcases k _ List.mem_cons_self with ⟨i, rfl⟩ | ⟨x, rfl⟩
    · cases h; simp [t']
    · cases h; simp [t']
theorem key_kinds {K : PySem.W.Frag} {F : Hp} : ∀ {ps : List (PyData × PyData)} {kv : List (Key × V)}, RepD K F kv ps → ∀ d ∈ ps.map (·.1), (∃ i, d = .int i) ∨ ∃ x, d = .str x
  | [], _, _, d, hd => by cases hd
  | p :: ps, kv, h, d, hd => by
    simp only [RepD] at h
    obtain ⟨k, v, w, rfl, q1, q2, t⟩ := h
    rw [List.map_cons] at hd
    rcases List.mem_cons.mp hd with e | e
    · subst e
      obtain ⟨p1, p2⟩ := p
      cases k with
      | inl i => cases p1 <;> simp_all [kV, rep_list, rep_tup, rep_dict]
      | inr x => cases p1 <;> simp_all [kV, rep_list, rep_tup, rep_dict]
    · exact key_kinds t d e
mutual
theorem Rep.readsN (I : Inv X pins σ H s) (hs : Same F H) (hy : SysAt X.base) : ∀ (d : PyData) (v : V) (u : Value), Rep X.K F v d → RelV v u → ∃ as, Reads s.heap u d as ∧ sysModules ∉ as
  | .none, _, _, h, r => by
    cases rep_none.mp h
    cases r
    exact ⟨_, Reads.none, by simp⟩
  | .bool b, _, _, h, r => by
    cases rep_bool.mp h
    cases r
    exact ⟨_, Reads.bool b, by simp⟩
  | .int i, _, _, h, r => by
    cases rep_int.mp h
    obtain ⟨t, rfl⟩ := r
    exact ⟨_, Reads.int i t, by simp⟩
  | .str x, _, _, h, r => by
    cases rep_str.mp h
    obtain ⟨t, rfl⟩ := r
    exact ⟨_, Reads.str x t, by simp⟩
  | .list ds, _, _, h, r => by
    obtain ⟨a, vs, rfl, q, t⟩ := rep_list.mp h
    cases r
    obtain ⟨its, rv, ⟨o, n, ho, hc, _, hd⟩, _⟩ := I.list (SqL.of (hs _ _ q))
    obtain ⟨as, hr, hn⟩ := RepL.readsN I hs hy ds vs its t rv
    refine ⟨_, Reads.list ho hc hd hr, fun z => ?_⟩
    rcases List.mem_cons.mp z with z | z
    · exact noSys_seq I hy ho hd z.symm
    · exact hn z
  | .tuple ds, _, _, h, r => by
    obtain ⟨a, vs, rfl, q, t⟩ := rep_tupS h
    cases r
    obtain ⟨its, rv, ⟨o, ho, hc, n, hd⟩, _⟩ := I.tuple (SqT.up hs q)
    obtain ⟨as, hr, hn⟩ := RepL.readsN I hs hy ds vs its t rv
    exact ⟨_, Reads.tuple ho hc hd hr, hn⟩
  | .dict kvs, _, _, h, r => by
    obtain ⟨a, kv, rfl, q, t⟩ := rep_dict.mp h
    cases r
    obtain ⟨_, hne, vs, hk, o, es, ep, ho, hx, hd, _, hp, _⟩ := I.hok a _ (hs _ _ q)
    obtain ⟨as, h1⟩ := readsAll_keys (h := s.heap) hp hk t
    obtain ⟨bs, h2, hn⟩ := RepD.readsN I hs hy kvs kv vs t hk
    have e1 := keys_as h1 (key_kinds t)
    subst e1
    refine ⟨_, Reads.dict ho hx.1 hd h1 (bs := bs) ?_, fun z => ?_⟩
    · rw [pairs_vals hp]
      exact h2
    · simp only [List.append_nil, List.nil_append, List.cons_append] at z
      rcases List.mem_cons.mp z with z | z
      · rw [← z] at hne
        exact absurd hne (by decide)
      · exact hn z
theorem RepL.readsN (I : Inv X pins σ H s) (hs : Same F H) (hy : SysAt X.base) : ∀ (ds : List PyData) (vs : List V) (us : List Value), RepL X.K F vs ds → Vals vs us → ∃ as, ReadsAll s.heap us ds as ∧ sysModules ∉ as
  | [], _, _, h, r => by
    cases repL_nil.mp h
    cases r
    exact ⟨_, .nil, by simp⟩
  | d :: ds, _, _, h, r => by
    obtain ⟨v, w, rfl, q, t⟩ := repL_cons.mp h
    cases r with
    | cons r1 r2 =>
      obtain ⟨as, h1, n1⟩ := Rep.readsN I hs hy d _ _ q r1
      obtain ⟨bs, h2, n2⟩ := RepL.readsN I hs hy ds _ _ t r2
      exact ⟨_, .cons h1 h2, by simp [n1, n2]⟩
theorem RepD.readsN (I : Inv X pins σ H s) (hs : Same F H) (hy : SysAt X.base) : ∀ (ps : List (PyData × PyData)) (kv : List (Key × V)) (us : List (Key × Value)), RepD X.K F kv ps → KV kv us → ∃ as, ReadsAll s.heap (us.map (·.2)) (ps.map (·.2)) as ∧ sysModules ∉ as
  | [], kv, _, h, r => by
    simp only [RepD] at h
    subst h
    cases r
    exact ⟨_, .nil, by simp⟩
  | p :: ps, kv, _, h, r => by
    simp only [RepD] at h
    obtain ⟨k, v, w, rfl, q1, q2, t⟩ := h
    cases r with
    | cons r1 r2 =>
      obtain ⟨as, h1, n1⟩ := Rep.readsN I hs hy p.2 _ _ q2 r1.2
      obtain ⟨bs, h2, n2⟩ := RepD.readsN I hs hy ps _ _ t r2
      rw [List.map_cons, List.map_cons]
      exact ⟨_, .cons h1 h2, by simp [n1, n2]⟩
end
end
def reprOk (d : PyData) : Bool := d.showable && decide (d.depth ≤ 60) && decide (d.shown.length ≤ sizeLine)
def pyRepr1 (x : PyData) : Option RV := if reprOk x then some (.d (.str x.shown)) else none
/-- repr(x) of frozen data -/
def mRepr (m : M PyData) : M EV := m.bind fun x => fun env g => M.opt ((pyRepr1 x).map RV.ev) env g
section
open PySem.Spec PyProof.Rows
variable {X : Cx} {C : DCx} {e : Expr} {p pos : Pos}
def rRepr (K : PySem.W.Frag) : List V → Hp → VK → Prop := fun vs H Q => ∃ F v d, vs = [v] ∧ Same F H ∧ Rep K F v d ∧ reprOk d = true ∧ Q (.str d.shown) H
theorem call_reprD (hgd : X.A.guards = some []) (hy : SysAt X.base) (hu : X.A.units + 65 < cLine) : CallR X (.builtin "repr") (rRepr X.K) := by
  intro pins s σ H vs us Q I r h
  obtain ⟨F, v, d, rfl, hs, rp, ok, q⟩ := h
  obtain ⟨u, rfl, r1⟩ := vals1 r
  obtain ⟨as, hr, hn⟩ := Rep.readsN I hs hy d v u rp r1
  unfold reprOk at ok
  rw [Bool.and_eq_true, Bool.and_eq_true, decide_eq_true_eq, decide_eq_true_eq] at ok
  obtain ⟨⟨o1, o2⟩, o3⟩ := ok
  have fin : ∀ (h' : Heap) (t : Tok) (tk : Nat), (∀ b o, s.heap.get? b = some o → h'.get? b = some o) → EP X pins σ Q (.str d.shown t) { s with heap := h', toks := tk } := fun h' t tk hk => ⟨.str d.shown, H, I.kept (t' := tk) hk, ⟨t, rfl⟩, q⟩
  cases hr with
  | none => exact PySem.P.repr_of_none (fin s.heap _ _ fun _ _ e => e)
  | bool b => exact PySem.P.repr_of_bool (by have := fin s.heap s.toks (s.toks + 1) fun _ _ e => e; simpa only [PyData.shown] using this)
  | int i t => exact PySem.P.repr_of_int (by simpa [PyData.showable] using o1) (by have := fin s.heap s.toks (s.toks + 1) fun _ _ e => e; simpa only [PyData.shown] using this)
  | str x t => exact PySem.P.repr_of_str (by have := fin s.heap s.toks (s.toks + 1) fun _ _ e => e; simpa only [PyData.shown] using this) (by simpa only [PyData.shown] using o3)
  | list h1 h2 h3 h4 => exact repr_of_reads' (.list h1 h2 h3 h4) o1 (fun _ => hn) hgd (by omega) (fun _ _ e => e) (fun h' u tk hk => fin h' u tk hk) o3
  | tuple h1 h2 h3 h4 => exact repr_of_reads' (.tuple h1 h2 h3 h4) o1 (fun _ => hn) hgd (by omega) (fun _ _ e => e) (fun h' u tk hk => fin h' u tk hk) o3
  | dict h1 h2 h3 h4 h5 => exact repr_of_reads' (.dict h1 h2 h3 h4 h5) o1 (fun _ => hn) hgd (by omega) (fun _ _ e => e) (fun h' u tk hk => fin h' u tk hk) o3
theorem de_repr {m : M PyData} (hgd : X.A.guards = some []) (hy : SysAt X.base) (hu : X.A.units + 65 < cLine) (hg : Gl X "repr") (hm : X.mg "repr" = none) (ha : DD X C e m)
    (hs : starEach [e] X.env = (false, eval e X.env) :: starEach [] X.env := by rfl) (hpl : (backTo pos (starEach [] X.env)).any (·.1) = false := by rfl) : DE X C (.Call (.Name "repr" p) [e] [] pos) (mRepr m) := by
  refine ⟨fun hK => ?_⟩
  obtain ⟨t, h1, s1⟩ := ha.run hK
  refine ⟨_, pe_callB (call_reprD hgd hy hu) hg hm boot_repr (pa_cons h1 pa_nil hs) (by decide) (by decide) hs hpl, fun σ F H l env g Q R w => ?_⟩
  refine s1 σ F H l env g _ R (Wp.mono (Wp.bind.mp w) (fun d env1 g1 w v F1 H1 l1 R1 x1 r1 => ?_) fun _ _ _ _ w => w)
  cases hg : pyRepr1 d with
  | none => rw [hg] at w; exact w.elim
  | some ev =>
    rw [hg] at w
    unfold pyRepr1 at hg
    obtain ⟨h2, rfl⟩ := if_some hg
    exact ⟨F1, v, d, rfl, R1.sub, by rw [← hK]; exact r1, h2, (KE.res (r := .d (.str d.shown)) R1 (KE.up w x1)).val R1.sub (rep_str.mpr rfl)⟩
end
end DL
namespace DL
open PySem L2
/-! ### the source: a dict of its cells and three ints -/
def srcGetD (s : Src) (key : Str) : Option EV :=
  if key = "cells" then some (.src true) else if key = "left" then some (.d (.int s.left)) else if key = "mixed" then some (.d (.int s.mixed)) else if key = "turn" then some (.d (.int s.turn)) else none
def srcPutD (s : Src) (key : Str) (i : Int) : Option Src :=
  if key = "left" then some { s with left := i } else if key = "mixed" then some { s with mixed := i } else if key = "turn" then some { s with turn := i } else none
theorem ne_cl : ("cells" : Str) ≠ "left" := by decide
theorem ne_cm : ("cells" : Str) ≠ "mixed" := by decide
theorem ne_ct : ("cells" : Str) ≠ "turn" := by decide
theorem ne_lm : ("left" : Str) ≠ "mixed" := by decide
theorem ne_lt : ("left" : Str) ≠ "turn" := by decide
theorem ne_mt : ("mixed" : Str) ≠ "turn" := by decide
def srcKV (c : Addr) (s : Src) : List (Key × V) := [(.inr "cells", .ref c), (.inr "left", .int s.left), (.inr "mixed", .int s.mixed), (.inr "turn", .int s.turn)]
theorem srcKV_get {c : Addr} {s : Src} {key : Str} {ev : EV} (h : srcGetD s key = some ev) : ∃ v, valV (srcKV c s) (.inr key) = some v ∧ (match ev with
    | .src b => b = true ∧ v = V.ref c
    | .d (.int i) => v = V.int i
    | _ => False) := by
  unfold srcGetD at h
  split at h
  · rename_i e; subst e; cases h
    exact ⟨_, by simp [srcKV, valV], rfl, rfl⟩
  · split at h
    · rename_i e; subst e; cases h
      exact ⟨_, by simp [srcKV, valV, ne_cl], rfl⟩
    · split at h
      · rename_i e; subst e; cases h
        exact ⟨_, by simp [srcKV, valV, ne_cm, ne_lm], rfl⟩
      · split at h
        · rename_i e; subst e; cases h
          exact ⟨_, by simp [srcKV, valV, ne_ct, ne_lt, ne_mt], rfl⟩
        · cases h
theorem srcKV_put {c : Addr} {s s' : Src} {key : Str} {i : Int} (h : srcPutD s key i = some s') : putK (srcKV c s) (.inr key) (.int i) = srcKV c s' ∧ s'.cells = s.cells := by
  unfold srcPutD at h
  split at h
  · rename_i e; subst e; cases h
    simp [srcKV, putK, ne_cl, ne_cl.symm, ne_lm, ne_lm.symm, ne_lt, ne_lt.symm]
  · split at h
    · rename_i e; subst e; cases h
      simp [srcKV, putK, ne_cm, ne_cm.symm, ne_lm, ne_lm.symm, ne_mt, ne_mt.symm]
    · split at h
      · rename_i e; subst e; cases h
        simp [srcKV, putK, ne_ct, ne_ct.symm, ne_lt, ne_lt.symm, ne_mt, ne_mt.symm]
      · cases h
section
variable {C : DCx} {σ : L2.St} {F H : Hp} {l : Loc} {env : Env'} {g : G}
/-- the source, written -/
theorem Rel.srcW {d c : Addr} {s s' : Src} {H' : Hp} (R : Rel C σ F H l env (some s)) (el : l = some (d, c)) (hd : H' d = some (srcDict c s')) (hc : H' c = some (.lst (s'.cells.map .int))) (off : ∀ b, b ≠ d → b ≠ c → H' b = H b) :
    Rel C σ F H' l env (some s') ∧ Ext σ F H l env F H' l env := by
  subst el
  have hS := R.src
  obtain ⟨h1, h2, h3, h4, h5⟩ := hS
  have at_ : ∀ b, SrcAt (some (d, c)) b ↔ b = d ∨ b = c := fun b => ⟨fun ⟨p, e, q⟩ => by cases e; exact q, fun q => ⟨_, rfl, q⟩⟩
  have keep : ∀ b o, H b = some o → ¬ SrcAt (some (d, c)) b → H' b = some o := fun b o e n => by
    rw [off b (fun z => n ((at_ b).mpr (.inl z))) (fun z => n ((at_ b).mpr (.inr z)))]
    exact e
  have stay : ∀ b, H b ≠ none → H' b ≠ none := fun b e => by
    by_cases z1 : b = d
    · rw [z1, hd]; simp
    · by_cases z2 : b = c
      · rw [z2, hc]; simp
      · rw [off b z1 z2]; exact e
  refine ⟨⟨fun b o e => ?_, R.len, R.dat, fun i x e => ?_, R.inj, R.iscr, R.isrc, ⟨h1, hd, hc, h4, h5⟩, fun a o e n => ?_, fun a e => stay a (R.oldd a e), R.f0, R.fo, R.lo, R.l0⟩,
    ⟨.refl _, stay, fun a o e _ n => keep a o e n, fun a e => .inl e, fun _ e => e, fun _ e => e, fun _ e => .inl e⟩⟩
  · have z1 : b ≠ d := ne_of_none e h4
    have z2 : b ≠ c := ne_of_none e h5
    rw [off b z1 z2]
    exact R.sub _ _ e
  · obtain ⟨a, k1, k2, k3, k4, k5⟩ := R.own i x e
    exact ⟨a, k1, k2.up (.refl _) fun o q => keep a o q k5, k3, k4, k5⟩
  · refine keep a o (R.old a o e n) fun z => ?_
    rcases R.lo a z with q | q
    · exact n q
    · rw [e] at q; cases q
end
def mSrcGet (key : Str) (mo : M EV) : M EV := mo.bind fun ev => fun env g => match ev, g with
  | .src false, some s => M.opt (srcGetD s key) env g
  | _, _ => .bad
def srcPutV (key : Str) (v ev : EV) (g : G) : Option Src := match v, ev, g with
  | .d (.int i), .src false, some s => srcPutD s key i
  | _, _, _ => none
theorem srcPutV_inv {key : Str} {v ev : EV} {g : G} {s' : Src} (h : srcPutV key v ev g = some s') : ∃ i s, v = .d (.int i) ∧ ev = .src false ∧ g = some s ∧ srcPutD s key i = some s' := by
  unfold srcPutV at h
  split at h
  · exact ⟨_, _, rfl, rfl, rfl, h⟩
  · cases h
def mSrcPut (key : Str) (mv mo : M EV) : M Fl := mv.bind fun v => mo.bind fun ev => fun env g => match srcPutV key v ev g with
  | some s' => .ok .nx env (some s')
  | none => .bad
def mSrcLen (mo : M EV) : M EV := mo.bind fun ev => fun env g => match ev, g with
  | .src true, some s => .ok (.d (.int (s.cells.length : Nat))) env g
  | _, _ => .bad
def mSrcPop (mo : M EV) : M EV := mo.bind fun ev => fun env g => match ev, g with
  | .src true, some s => match s.cells[s.cells.length - 1]? with
    | some i => .ok (.d (.int i)) env (some { s with cells := s.cells.dropLast })
    | none => .bad
  | _, _ => .bad
def mScrItems (mo : M EV) : M (List PyData) := mo.bind fun ev => match ev with
  | .scr ns => M.pure (ns.map .int)
  | _ => M.bad
theorem srcRep_cases {F H : Hp} {l : Loc} {g : G} {d c : Addr} (h : SrcRep F H l g) (e : l = some (d, c)) : ∃ s, g = some s ∧ d ≠ c ∧ H d = some (srcDict c s) ∧ H c = some (.lst (s.cells.map .int)) ∧ F d = none ∧ F c = none := by
  subst e
  cases g with
  | none => exact h.elim
  | some s => exact ⟨s, rfl, h⟩
section
variable {X : Cx} {C : DCx} {o e : Expr} {pos pos' apos cpos p p0 : Pos} {key : Str} {j : Nat} {mo mv : M EV}
theorem de_srcGet (hu : X.A.units + 1 < cLine) (ho : DE X C o mo) (hs : NoSl (.Constant (.str key) j p) := by intro _ _; rfl) : DE X C (.Subscript o (.Constant (.str key) j p) pos) (mSrcGet key mo) := by
  refine ⟨fun hK => ?_⟩
  obtain ⟨t, h1, s1⟩ := ho.run hK
  refine ⟨_, pe_dget hu h1 pe_str hs, fun σ F H l env g Q R w => ?_⟩
  refine s1 σ F H l env g _ R (Wp.mono (Wp.bind.mp w) (fun ev env1 g1 w v F1 H1 l1 R1 x1 r1 f1 => ?_) fun _ _ _ _ w => w)
  split at w
  · rename_i s
    obtain ⟨ev', q, w⟩ := Wp.opt w
    obtain ⟨d, c, e1, rfl⟩ := r1
    obtain ⟨s', e2, k1, k2, k3, k4, k5⟩ := srcRep_cases R1.src e1
    cases e2
    obtain ⟨v, q1, q2⟩ := srcKV_get (c := c) q
    refine ⟨d, v, rfl, ?_, ?_⟩
    · have this : DGet H1 d (kV (.inr key)) (valV (srcKV c s) (.inr key)) := DGet.k k2
      rw [q1] at this
      exact this
    · cases ev' with
      | src b =>
        obtain ⟨rfl, rfl⟩ := q2
        exact w _ F1 H1 l1 R1 x1 ⟨d, c, e1, rfl⟩ trivial
      | d y =>
        cases y with
        | int i => rw [q2]; exact w _ F1 H1 l1 R1 x1 (RepEV.ofd (rep_int.mpr rfl)) trivial
        | _ => exact q2.elim
      | _ => exact q2.elim
  · exact w.elim
theorem ds_srcPut (hu : X.A.units + 1 < cLine) (hv : DE X C e mv) (ho : DE X C o mo) (hs : swapsWith e (some (.Subscript o (.Constant (.str key) j p) pos')) pos.line X.env = pure false := by rfl) :
    DS X C (.Assign [.Subscript o (.Constant (.str key) j p) pos'] e pos) (mSrcPut key mv mo) := by
  refine ⟨fun hK => ?_⟩
  obtain ⟨tv, h1, s1⟩ := hv.run hK
  obtain ⟨t, h2, s2⟩ := ho.run hK
  refine ⟨_, ps_dput hu h2 pe_str h1 hs, fun σ F H l env g D R w => ?_⟩
  refine s1 σ F H l env g _ R (Wp.mono (Wp.bind.mp w).xs (fun v env1 g1 w u F1 H1 l1 R1 x1 r1 f1 => ?_) fun _ _ _ _ w => w)
  refine s2 σ F1 H1 l1 env1 g1 _ R1 (Wp.mono (Wp.bind.mp w).xs (fun ev env2 g2 wf u2 F2 H2 l2 R2 x2 r2 f2 => ?_) fun _ _ _ _ w => w)
  cases q0 : srcPutV key v ev g2 with
  | none => rw [q0] at wf; exact wf.elim
  | some s' =>
    rw [q0] at wf
    obtain ⟨i, s, rfl, rfl, rfl, q⟩ := srcPutV_inv q0
    obtain ⟨d, c, e1, rfl⟩ := r2
    obtain ⟨s0, e2, k1, k2, k3, k4, k5⟩ := srcRep_cases R2.src e1
    cases e2
    obtain ⟨q1, q2⟩ := srcKV_put (c := c) q
    have hi : u = .int i := rep_int.mp (show Rep C.K F1 u (.int i) from r1)
    subst hi
    have dp : DPut H2 d (kV (.inr key)) (.int i) (upd H2 d (.dK (putK (srcKV c s) (.inr key) (.int i)))) := DPut.k k2 (show 4 < sizeLine by decide)
    rw [q1] at dp
    refine ⟨d, _, rfl, dp, ?_⟩
    obtain ⟨R3, x3⟩ := R2.srcW (s' := s') (H' := upd H2 d (.dK (srcKV c s'))) e1 upd_same (by rw [upd_ne (Ne.symm k1), q2]; exact k3) fun b n1 _ => upd_ne n1
    exact wf σ F2 _ l2 R3 (x1.fs.trans x2.fs)
theorem de_srcLen {x1 : Pos} (hg : Gl X "len") (hm : X.mg "len" = none) (ho : DE X C o mo) (hs : starEach [o] X.env = (false, eval o X.env) :: starEach [] X.env := by rfl) (hpl : (backTo pos (starEach [] X.env)).any (·.1) = false := by rfl) :
    DE X C (.Call (.Name "len" x1) [o] [] pos) (mSrcLen mo) := by
  refine ⟨fun hK => ?_⟩
  obtain ⟨t, h1, s1⟩ := ho.run hK
  refine ⟨_, pe_callB call_len hg hm (by decide +kernel) (pa_cons h1 pa_nil hs) (by decide) (by decide) hs hpl, fun σ F H l env g Q R w => ?_⟩
  refine s1 σ F H l env g _ R (Wp.mono (Wp.bind.mp w) (fun ev env1 g1 w v F1 H1 l1 R1 x1 r1 f1 => ?_) fun _ _ _ _ w => w)
  split at w
  · rename_i s
    obtain ⟨d, c, e1, rfl⟩ := r1
    obtain ⟨s0, e2, k1, k2, k3, k4, k5⟩ := srcRep_cases R1.src e1
    cases e2
    exact ⟨_, s.cells.length, rfl, .inl ⟨_, SqL.of k3, by rw [List.length_map]⟩, w _ F1 H1 l1 R1 x1 (RepEV.ofd (rep_int.mpr rfl)) trivial⟩
  · exact w.elim
theorem de_srcPop (ho : DE X C o mo) (hbase : attributeBase o "pop" X.env (eval o X.env) = eval o X.env := by rfl) (hline : (apos.endLine == cpos.line) = true := by rfl) :
    DE X C (.Call (.Attribute o "pop" apos) [] [] cpos) (mSrcPop mo) := by
  refine ⟨fun hK => ?_⟩
  obtain ⟨t, h1, s1⟩ := ho.run hK
  refine ⟨_, pe_bm0 PySem.F.plainAttrs_list PySem.F.slot_list_pop PySem.F.type_list_pop (id := "list.pop") (show MtR X "list.pop" rPop from mt_pop) h1 hbase hline, fun σ F H l env g Q R w => ?_⟩
  refine s1 σ F H l env g _ R (Wp.mono (Wp.bind.mp w) (fun ev env1 g1 w v F1 H1 l1 R1 x1 r1 f1 => ?_) fun _ _ _ _ w => w)
  split at w
  · rename_i s
    split at w
    · rename_i i hi
      obtain ⟨d, c, e1, rfl⟩ := r1
      obtain ⟨s0, e2, k1, k2, k3, k4, k5⟩ := srcRep_cases R1.src e1
      cases e2
      obtain ⟨R3, x3⟩ := R1.srcW (s' := { s with cells := s.cells.dropLast }) (H' := upd H1 c (.lst (s.cells.map V.int).dropLast)) e1 (by rw [upd_ne k1]; exact k2) (by rw [upd_same, ← List.map_dropLast]) fun b _ n2 => upd_ne n2
      refine ⟨.inl ⟨rfl, _, SqL.of k3⟩, c, s.cells.map V.int, .int i, rfl, rfl, k3, by rw [List.length_map, List.getElem?_map, hi]; rfl, ?_⟩
      exact w _ F1 _ l1 R3 (x1.trans (C := C) x3) (RepEV.ofd (rep_int.mpr rfl)) trivial
    · exact w.elim
  · exact w.elim
theorem walks_sql {K : PySem.W.Frag} {F : Hp} {a : Addr} {vs : List V} {ds : List PyData} (h : SqL K F a vs) (r : RepL K F vs ds) : Walks K (Itl K a) ds F where
  go := fun F' H' i s1 s2 hi => by
    rw [← r.length] at hi
    exact ⟨vs, vs[i], SqL.up s2 (SqL.up s1 h), by simp [hi]⟩
  yl := fun F' H' i v H2 s1 s2 hi y => by
    obtain ⟨rfl, y⟩ := y
    obtain ⟨d, hd, rd⟩ := r.get (y vs (SqL.up s2 (SqL.up s1 h)))
    exact ⟨F', d, hd, New.same s2 (Rep.up s1 _ _ rd)⟩
  st := fun F' H' s1 s2 => ⟨vs, SqL.up s2 (SqL.up s1 h), Nat.le_of_eq r.length⟩
theorem di_scr {tg : Expr} (ho : DE X C o mo) : DI X C tg o (mScrItems mo) := by
  refine ⟨fun hK => ?_⟩
  obtain ⟨t, h1, s1⟩ := ho.run hK
  refine ⟨_, pi_seq h1, fun σ F H l env g R Rl w => ?_⟩
  refine s1 σ F H l env g _ Rl (Wp.mono (Wp.bind.mp w) (fun ev env1 g1 w v F1 H1 l1 R1 x1 r1 f1 => ?_) fun _ _ _ _ w => w)
  split at w
  · rename_i ns
    obtain ⟨a, rfl, q⟩ := r1
    exact .inl ⟨a, rfl, ⟨_, by rw [← hK]; exact SqL.up R1.sub q⟩, by rw [← hK]; exact w _ F1 H1 l1 R1 x1 (walks_sql q (repL_ints ns))⟩
  · exact w.elim
/-- the new source -/
def srcNewD (a b c d : EV) (g : G) : Option Src := match a, b, c, d, g with
  | .fr (.list ds), .d (.int l), .d (.int m), .d (.int t), none => (intsOf ds).map fun ns => ⟨ns, l, m, t⟩
  | _, _, _, _, _ => none
theorem srcNewD_inv {a b c d : EV} {g : G} {s : Src} (h : srcNewD a b c d g = some s) : a = .fr (.list (s.cells.map .int)) ∧ b = .d (.int s.left) ∧ c = .d (.int s.mixed) ∧ d = .d (.int s.turn) ∧ g = none := by
  unfold srcNewD at h
  split at h
  · obtain ⟨ns, q, rfl⟩ := Option.map_eq_some_iff.mp h
    rw [intsOf_eq q]
    exact ⟨rfl, rfl, rfl, rfl, rfl⟩
  · cases h
def mSrcNew (m1 m2 m3 m4 : M EV) : M EV := m1.bind fun a => m2.bind fun b => m3.bind fun c => m4.bind fun d => fun env g => match srcNewD a b c d g with
  | some s => .ok (.src false) env (some s)
  | none => .bad
theorem de_srcNew {e1 e2 e3 e4 : Expr} {m1 m2 m3 m4 : M EV} {j1 j2 j3 j4 : Nat} {p1 p2 p3 p4 : Pos} (h1 : DE X C e1 m1) (h2 : DE X C e2 m2) (h3 : DE X C e3 m3) (h4 : DE X C e4 m4) :
    DE X C (.Dict [some (.Constant (.str "cells") j1 p1), some (.Constant (.str "left") j2 p2), some (.Constant (.str "mixed") j3 p3), some (.Constant (.str "turn") j4 p4)] [e1, e2, e3, e4] pos) (mSrcNew m1 m2 m3 m4) := by
  refine ⟨fun hK => ?_⟩
  obtain ⟨t1, k1, s1⟩ := h1.run hK
  obtain ⟨t2, k2, s2⟩ := h2.run hK
  obtain ⟨t3, k3, s3⟩ := h3.run hK
  obtain ⟨t4, k4, s4⟩ := h4.run hK
  refine ⟨_, pe_disp (pps_cons pe_str k1 (pps_cons pe_str k2 (pps_cons pe_str k3 (pps_cons pe_str k4 pps_nil)))) rfl rfl (by simp) (by simp), fun σ F H l env g Q R w => ?_⟩
  intro P hP
  have nF : F P = none := none_sub R.sub hP
  have nw : New C.K F H F (upd H P (.dK [])) (V.ref P) (.fr (.dict [])) :=
    ⟨.refl _, Same.upd hP, R.sub.trans (Same.upd hP), fun _ e => .inl e, P, rfl, hP, nF, .inl ⟨[], upd_same, by simp only [RepD]⟩⟩
  obtain ⟨R0, x0, r0⟩ := R.new nw
  obtain ⟨P', eP, oP, fP, zP, sP, wP⟩ := r0
  cases eP
  refine s1 σ F _ l env g _ R0 (Wp.mono (Wp.bind.mp w) (fun a env1 g1 w v1 F1 H1 l1 R1 x1 r1 f1 => ?_) fun _ _ _ _ w => w)
  refine s2 σ F1 H1 l1 env1 g1 _ R1 (Wp.mono (Wp.bind.mp w) (fun b env2 g2 w v2 F2 H2 l2 R2 x2 r2 f2 => ?_) fun _ _ _ _ w => w)
  refine s3 σ F2 H2 l2 env2 g2 _ R2 (Wp.mono (Wp.bind.mp w) (fun c env3 g3 w v3 F3 H3 l3 R3 x3 r3 f3 => ?_) fun _ _ _ _ w => w)
  refine s4 σ F3 H3 l3 env3 g3 _ R3 (Wp.mono (Wp.bind.mp w) (fun d env4 g4 wf v4 F4 H4 l4 R4 x4 r4 f4 => ?_) fun _ _ _ _ w => w)
  have x24 := x2.trans (C := C) (x3.trans (C := C) x4)
  have x14 := x1.trans (C := C) x24
  have hP4 : H4 P = some (.dK []) := x14.hk P _ upd_same wP sP
  have nP4 : F4 P = none := Classical.byContradiction fun z => by
    rcases x14.gr P z with q | q | q | ⟨⟨xs, q⟩, _⟩
    · exact q fP
    · rw [upd_same] at q; cases q
    · exact wP q
    · rw [upd_same] at q; cases q
  cases q0 : srcNewD a b c d g4 with
  | none => rw [q0] at wf; exact wf.elim
  | some sn =>
      rw [q0] at wf
      obtain ⟨rfl, rfl, rfl, rfl, rfl⟩ := srcNewD_inv q0
      obtain ⟨D, rfl, oD, fD, zD, sD, wD⟩ := r1.up x24
      obtain ⟨vs, hD, rl⟩ := oD
      have evs := repL_ints_of rl
      subst evs
      have e2 : v2 = .int sn.left := rep_int.mp (show Rep C.K F2 v2 (.int sn.left) from r2)
      have e3 : v3 = .int sn.mixed := rep_int.mp (show Rep C.K F3 v3 (.int sn.mixed) from r3)
      have e4 : v4 = .int sn.turn := rep_int.mp (show Rep C.K F4 v4 (.int sn.turn) from r4)
      subst e2 e3 e4
      have PD : P ≠ D := fun z => by
        rw [z, hD] at hP4
        cases hP4
      have el : l4 = none := by
        have := R4.src
        cases l4 with
        | none => rfl
        | some p => exact this.elim
      refine ⟨hP4, srcKV D sn, rfl, by simp [srcKV], ?_⟩
      have em : mergeK [] (srcKV D sn) = srcKV D sn := by
        simp [mergeK, srcKV, putK, ne_cl, ne_cm, ne_ct, ne_lm, ne_lt, ne_mt]
      rw [em]
      have C0P : C.H0 P = none := zP
      have up4 : ∀ b, b ≠ P → upd H4 P (.dK (srcKV D sn)) b = H4 b := fun b h => upd_ne h
      have at_ : ∀ b, SrcAt (some (P, D)) b ↔ b = P ∨ b = D := fun b => ⟨fun ⟨p, e, q⟩ => by cases e; exact q, fun q => ⟨_, rfl, q⟩⟩
      have owP : ¬ OwnAt σ env4 P := fun z => wP (x14.ow P z)
      have stay : ∀ b, H4 b ≠ none → upd H4 P (.dK (srcKV D sn)) b ≠ none := fun b e => by
        by_cases z : b = P
        · rw [z, upd_same]; simp
        · rw [up4 b z]; exact e
      have x04 : Ext σ F H l env F4 H4 l4 env4 := Ext.trans (C := C) x0 x14
      refine wf (V.ref P) F4 _ (some (P, D)) ⟨fun b o e => ?_, R4.len, R4.dat, fun i x e => ?_, R4.inj, R4.iscr, fun i z e => ?_, ⟨PD, upd_same, by rw [up4 D (Ne.symm PD)]; exact hD, nP4, fD⟩, fun b o e n => ?_, fun b e => stay b (R4.oldd b e), R4.f0, R4.fo, fun b z => ?_, fun p e => ?_⟩
        ⟨x04.fs, fun b e => stay b (x04.hd b e), fun b o e n1 n2 => ?_, x04.gr, x04.ow, fun p e => ?_, fun b z => ?_⟩ ⟨P, D, rfl, rfl⟩ trivial
      · rw [up4 b (ne_of_none e nP4)]; exact R4.sub _ _ e
      · obtain ⟨q, q1, q2, q3, q4, q5⟩ := R4.own i x e
        have oq : OwnAt σ env4 q := ⟨i, x, e, q1⟩
        have qP : q ≠ P := fun z => owP (z ▸ oq)
        have qD : q ≠ D := fun z => wD (z ▸ oq)
        exact ⟨q, q1, q2.up (.refl _) fun o h => by rw [up4 q qP]; exact h, q3, q4, fun z => ((at_ q).mp z).elim qP qD⟩
      · obtain ⟨d', c', q1, _⟩ := R4.isrc i z e
        rw [el] at q1; cases q1
      · have bP : b ≠ P := fun z => by rw [z, C0P] at e; cases e
        rw [up4 b bP]; exact R4.old b o e n
      · rcases (at_ b).mp z with q | q
        · rw [q]; exact .inr C0P
        · rw [q]; exact .inr zD
      · have := R4.l0 p e
        rw [el] at this; cases this
      · have bP : b ≠ P := fun z => by rw [z, hP] at e; cases e
        rw [up4 b bP]; exact x04.hk b o e n1 n2
      · have := x04.ls p e
        rw [el] at this; cases this
      · rcases (at_ b).mp z with q | q
        · rw [q]; exact .inr hP
        · rw [q]
          have := f1 D rfl
          by_cases z : D = P
          · exact absurd z.symm PD
          · rw [upd_ne z] at this; exact .inr this
/-- {} -/
theorem de_dict0 : DE X C (.Dict [] [] pos) (M.pure (.fr (.dict []))) := ⟨fun _ => ⟨_, pe_dnewK, fun σ F H l env g Q R w => fun q hq => (KE.res (r := .fr (.dict [])) R w).dict R.sub hq (by simp only [RepD])⟩⟩
end
end DL
namespace DL
open PySem L2
/-! ### short forms, for printed derivations -/
section
variable {X : Cx} {C : DCx}
theorem vV (i : Nat) {x : Str} {pos : Pos} (hN : X.N[i]? = some x := by rfl) (hv : Vis X.env.scope x := by first | exact Or.inl rfl | exact Or.inr (Or.inl rfl) | exact Or.inr (Or.inr rfl)) (hd : (x == ("__debug__" : Str)) = false := by decide)
    (hcd : (x == ("__classdict__" : Str)) = false := by decide) : DE X C (.Name x pos) (mVar i) := de_var (pe_var hN hv hd hcd)
theorem vB (i : Nat) {x : Str} {pos : Pos} (hN : X.N[i]? = some x := by rfl) (hv : Vis X.env.scope x := by first | exact Or.inl rfl | exact Or.inr (Or.inl rfl) | exact Or.inr (Or.inr rfl)) (hd : (x == ("__debug__" : Str)) = false := by decide)
    (hcd : (x == ("__classdict__" : Str)) = false := by decide) : DE X C (.Name x pos) (mVarB i) := de_varB (pe_var hN hv hd hcd)
theorem gN (i : Nat) {x : Str} {pos : Pos} (hN : X.N.Nodup) (hi : X.N[i]? = some x := by rfl) (hx : L2.Loc X.env.scope x := by first | exact .inl rfl | exact .inr rfl) (hf : X.fn x = true ∨ X.env.scope.names.lookup x = some .local := by first | exact .inl rfl | exact .inr rfl) :
    DG X C (.Name x pos) (.nm i) := dg_of (pg_name hN hi hx hf)
theorem sSet (i : Nat) {x : Str} {e : Expr} {m : M EV} {pos pos' : Pos} (hN : X.N.Nodup) (h : DE X C e m) (hi : X.N[i]? = some x := by rfl) (hx : L2.Loc X.env.scope x := by first | exact .inl rfl | exact .inr rfl)
    (hs : swapsWith e (some (.Name x pos')) pos.line X.env = pure false := by rfl) (hf : X.fn x = true ∨ X.env.scope.names.lookup x = some .local := by first | exact .inl rfl | exact .inr rfl) :
    DS X C (.Assign [.Name x pos'] e pos) (mSet i m) := ds_set hN hi hx h hs hf
/-- a def that may be called -/
structure Cal (P : Program) (w : World) (K : PySem.W.Frag) (mg : Str → Option Value) (base : Heap) (k : Nat) (x : Str) (ps : List Str) (fm : FM) : Prop where
  ex : ∃ (f : Addr) (fd : FuncData), mg x = some (.ref f) ∧ PySem.W.keepIn K (.ref f) = true ∧ Binds K fd ps [] ∧ FnD P w K mg base k f fd ps fm
theorem cC {k j n : Nat} {ps : List Str} {fm : FM} {x : Str} {p pos : Pos} {e : Expr} {es : List Expr} {m : M (List EV)} (c : Cal X.prog X.w X.K X.mg X.base j x ps fm) (hr : Room k X.A) (hgd : X.A.guards = some []) (ha : DA X C (e :: es) m) (hjk : j ≤ k := by first | decide | omega) (hg : Gl X x := by rfl)
    (hdb : (x == ("__debug__" : Str)) = false := by decide) (he : starEach (e :: es) X.env = (false, eval e X.env) :: starEach es X.env := by rfl) (hpl : (backTo pos (starEach es X.env)).any (·.1) = false := by rfl) (hn : ps.length = n := by rfl) :
    DE X C (.Call (.Name x p) (e :: es) [] pos) (mCall n fm m) := by
  subst hn
  obtain ⟨f, fd, h1, h2, h3, h4⟩ := c.ex
  exact de_call (h4.mono hjk) hr hgd hg h1 h2 h3 ha hdb he hpl
end
section
variable {P : Program} {w : World} {K : PySem.W.Frag} {mg : Str → Option Value} {base : Heap}
open PySem.Spec PyProof.Rows
theorem fnd_ok {x : Str} {st : Stmt} {f : Addr} {fd : FuncData} {N ps : List Str} {k : Nat} {mb : M Fl} (Fu : Fun K x x st f fd) (S : FnScope N ps (defScope st))
    (hbody : ∀ (cdv : Value) (A : Around) (outer : List Env) (s : Shared) (H F : Hp) (l : DL.Loc), Room k (A.deeper (envOfC x (defScope st) s.heap.objs.size f cdv)) → A.guards = some [] →
      DSs (cxOf CXN P w K mg base N x (defScope st) f cdv A outer s H XN).nox (cIn K F H l) (defBody st) mb) : FnD P w K mg base (k + 1) f fd ps (bodyRun N.length mb) := by
  obtain ⟨oc, od, kV, doc, pm, an, cdv, ct, osl, rfl, lk, hcd⟩ := Fu.ex
  exact fnd_of lk hcd S fun A outer s H F l hr hg => hbody cdv A outer s H F l hr hg
theorem cal_of {x : Str} {st : Stmt} {f : Addr} {fd : FuncData} {ps : List Str} {k : Nat} {fm : FM} (Fu : Fun K x x st f fd) (hm : mg x = some (.ref f)) (hb : Binds K fd ps []) (h : FnD P w K mg base k f fd ps fm) : Cal P w K mg base k x ps fm :=
  ⟨f, fd, hm, Fu.kp, hb, h⟩
theorem units_of {A : Around} {k : Nat} (hr : Room k A) : A.units + 65 < cLine := by have := hr.un; omega
end
end DL
namespace DL
open PySem L2
theorem hu64 {n : Nat} (h : n + 65 < cLine) : n + 64 < cLine := by omega
theorem hu1 {n : Nat} (h : n + 65 < cLine) : n + 1 < cLine := by omega
theorem bt_len : bootBuiltins "len" = some (.builtin "len") := by decide +kernel
theorem bt_abs : bootBuiltins "abs" = some (.builtin "abs") := by decide +kernel
theorem bt_max : bootBuiltins "max" = some (.builtin "max") := by decide +kernel
theorem bt_min : bootBuiltins "min" = some (.builtin "min") := by decide +kernel
theorem bt_sum : bootBuiltins "sum" = some (.builtin "sum") := by decide +kernel
theorem bt_all : bootBuiltins "all" = some (.builtin "all") := by decide +kernel
theorem bt_any : bootBuiltins "any" = some (.builtin "any") := by decide +kernel
theorem bt_sorted : bootBuiltins "sorted" = some (.builtin "sorted") := by decide +kernel
theorem bt_int : bootBuiltins "int" = some (.type "int") := by decide +kernel
theorem bt_bool : bootBuiltins "bool" = some (.type "bool") := by decide +kernel
theorem bt_str : bootBuiltins "str" = some (.type "str") := by decide +kernel
theorem bt_list : bootBuiltins "list" = some (.type "list") := by decide +kernel
theorem bt_tuple : bootBuiltins "tuple" = some (.type "tuple") := by decide +kernel
end DL
namespace DL
open PySem L2
/-! ### mirrors, evaluated -/
abbrev NoX : Str → PyData → Env' → G → Prop := fun _ _ _ _ => False
theorem backE_get_in {e0 e : Env'} {i : Nat} {s : Slot} : ∀ {vs : List Nat}, i ∈ vs → e0[i]? = some s → i < e.length → (backE e0 e vs)[i]? = some s
  | v :: vs, hi, h0, hl => by
    unfold backE
    by_cases z : v = i
    · subst z
      rw [h0]
      dsimp only
      rw [List.getElem?_set_self (by rw [backE_length]; exact hl)]
    · have hi' : i ∈ vs := by
        rcases List.mem_cons.mp hi with q | q
        · exact absurd q.symm z
        · exact q
      split
      · rw [get_set_ne z]; exact backE_get_in hi' h0 hl
      · exact backE_get_in hi' h0 hl
theorem backE_get_out {e0 e : Env'} {i : Nat} : ∀ {vs : List Nat}, i ∉ vs → (backE e0 e vs)[i]? = e[i]?
  | [], _ => rfl
  | v :: vs, h => by
    rw [List.mem_cons, not_or] at h
    unfold backE
    split
    · rw [get_set_ne (fun z => h.1 z.symm)]; exact backE_get_out h.2
    · exact backE_get_out h.2
theorem backE_wipe (e : Env') (vs : List Nat) : backE e (wipeE e vs) vs = e := by
  refine List.ext_getElem? fun i => ?_
  by_cases hi : i ∈ vs
  · by_cases hl : i < e.length
    · rw [backE_get_in hi (List.getElem?_eq_getElem hl) (by rw [wipeE_length]; exact hl), List.getElem?_eq_getElem hl]
    · rw [List.getElem?_eq_none (by rw [backE_length, wipeE_length]; omega), List.getElem?_eq_none (by omega)]
  · rw [backE_get_out hi, wipeE_out hi]
theorem bind_eq {α β : Type} {m : M α} {f : α → M β} {e e' : Env'} {g g' : G} {a : α} (h : m e g = .ok a e' g') : M.bind m f e g = f a e' g' := by
  unfold M.bind
  rw [h]
/-! comprehensions -/
theorem loopC_ok {p : Pat} {vs : List Nat} {mt : M Bool} {me : M PyData} {t : PyData → Bool} {f : PyData → PyData} {e : Env'} {g : G} : ∀ (xs acc : List PyData), acc.length + xs.length ≤ sizeLine →
    (∀ x ∈ xs, ∃ e1, asg p x e = some e1 ∧ wipeE e1 vs = e ∧ mt e1 g = .ok (t x) e1 g ∧ (t x = true → me e1 g = .ok (f x) e1 g)) → loopC p vs mt me xs acc e g = .ok (acc ++ (xs.filter t).map f) e g
  | [], acc, _, _ => by simp [loopC, M.pure]
  | x :: xs, acc, hz, h => by
    obtain ⟨e1, h1, h2, h3, h4⟩ := h x (by simp)
    have hx : ∀ y ∈ xs, _ := fun y hy => h y (List.mem_cons_of_mem _ hy)
    rw [List.length_cons] at hz
    unfold loopC
    simp only [h1]
    rw [bind_eq h3]
    by_cases ht : t x = true
    · have h4' := h4 ht
      have hlt : acc.length < sizeLine := by omega
      rw [if_pos ht, bind_eq h4', if_pos hlt, h2, loopC_ok xs (acc ++ [f x]) (by simp; omega) hx]
      simp [List.filter_cons, ht]
    · have ht' : t x = false := by simpa using ht
      rw [if_neg ht, h2, loopC_ok xs acc (by omega) hx]
      simp [List.filter_cons, ht']
/-- a comprehension that changes nothing -/
theorem mComp_ok {p : Pat} {vs : List Nat} {mi : M (List PyData)} {mt : M Bool} {me : M PyData} (t : PyData → Bool) (f : PyData → PyData) {env env1 : Env'} {g g1 : G} {xs : List PyData} (hi : mi env g = .ok xs env1 g1) (no : noOwn env1 vs = true) (hz : xs.length ≤ sizeLine)
    (h : ∀ x ∈ xs, ∃ e1, asg p x (wipeE env1 vs) = some e1 ∧ wipeE e1 vs = wipeE env1 vs ∧ mt e1 g1 = .ok (t x) e1 g1 ∧ (t x = true → me e1 g1 = .ok (f x) e1 g1)) :
    mComp p vs mi mt me env g = .ok (.fr (.list ((xs.filter t).map f))) env1 g1 := by
  unfold mComp blockOf
  simp only [M.bind, hi, no, if_true, M.pure]
  rw [loopC_ok xs [] (by simpa using hz) h]
  simp [backE_wipe]
theorem mComp_all {p : Pat} {vs : List Nat} {mi : M (List PyData)} {me : M PyData} (f : PyData → PyData) {env env1 : Env'} {g g1 : G} {xs : List PyData} (hi : mi env g = .ok xs env1 g1) (no : noOwn env1 vs = true) (hz : xs.length ≤ sizeLine)
    (h : ∀ x ∈ xs, ∃ e1, asg p x (wipeE env1 vs) = some e1 ∧ wipeE e1 vs = wipeE env1 vs ∧ me e1 g1 = .ok (f x) e1 g1) :
    mComp p vs mi mYes me env g = .ok (.fr (.list (xs.map f))) env1 g1 := by
  have q := mComp_ok (mt := mYes) (fun _ => true) f hi no hz fun x hx => let ⟨e1, h1, h2, h3⟩ := h x hx; ⟨e1, h1, h2, rfl, fun _ => h3⟩
  rw [List.filter_eq_self.mpr (by simp)] at q
  exact q
/-- .. that changes things: I rest acc -/
theorem mComp_wp {p : Pat} {vs : List Nat} {mi : M (List PyData)} {mt : M Bool} {me : M PyData} {env env1 : Env'} {g g1 : G} {xs : List PyData} {K : EV → Env' → G → Prop} {E : Str → PyData → Env' → G → Prop} (I : List PyData → List PyData → Env' → G → Prop) (hi : mi env g = .ok xs env1 g1) (no : noOwn env1 vs = true)
    (h0 : I xs [] (wipeE env1 vs) g1)
    (hs : ∀ x rest acc e g, I (x :: rest) acc e g → ∃ e1, asg p x e = some e1 ∧ Wp (mt e1 g) (fun b e2 g2 => if b = true then Wp (me e2 g2) (fun y e3 g3 => acc.length < sizeLine ∧ I rest (acc ++ [y]) (wipeE e3 vs) g3) NoX else I rest acc (wipeE e2 vs) g2) NoX)
    (he : ∀ acc e g, I [] acc e g → K (.fr (.list acc)) (backE env1 e vs) g) : Wp (mComp p vs mi mt me env g) K E := by
  have main : ∀ (xs acc : List PyData) (e : Env') (g : G), I xs acc e g → Wp (loopC p vs mt me xs acc e g) (fun ys e' g' => K (.fr (.list ys)) (backE env1 e' vs) g') NoX := by
    intro xs
    induction xs with
    | nil => intro acc e g h; exact he acc e g h
    | cons x xs ih =>
      intro acc e g h
      obtain ⟨e1, h1, h2⟩ := hs x xs acc e g h
      unfold loopC
      simp only [h1]
      refine Wp.bind.mpr (h2.mono (fun b e2 g2 w => ?_) fun _ _ _ _ w => w)
      cases b with
      | true =>
        rw [if_pos rfl] at w ⊢
        refine Wp.bind.mpr (w.mono (fun y e3 g3 w => ?_) fun _ _ _ _ w => w)
        rw [if_pos w.1]
        exact ih _ _ _ w.2
      | false =>
        rw [if_neg Bool.false_ne_true] at w ⊢
        exact ih _ _ _ w
  have hw := main xs [] _ _ h0
  unfold mComp blockOf
  simp only [M.bind, hi, no, if_true]
  cases q : loopC p vs mt me xs [] (wipeE env1 vs) g1 with
  | ok ys e' g' => rw [q] at hw; exact hw
  | exc _ _ _ _ => rw [q] at hw; exact hw.elim
  | bad => rw [q] at hw; exact hw.elim
/-! loops -/
theorem forD_wp {p : Pat} {mb : M Fl} {K : Fl → Env' → G → Prop} {E : Str → PyData → Env' → G → Prop} (I : List PyData → Env' → G → Prop)
    (hs : ∀ x rest e g, I (x :: rest) e g → ∃ e1, asg p x e = some e1 ∧ Wp (mb e1 g) (fun fl e2 g2 => match fl with
      | .nx => I rest e2 g2
      | .ct => I rest e2 g2
      | .bk => K .nx e2 g2
      | .rt v => K (.rt v) e2 g2) E)
    (he : ∀ e g, I [] e g → K .nx e g) : ∀ (xs : List PyData) (e : Env') (g : G), I xs e g → Wp (forD p mb xs e g) K E
  | [], e, g, h => he e g h
  | x :: xs, e, g, h => by
    obtain ⟨e1, h1, h2⟩ := hs x xs e g h
    unfold forD
    simp only [h1]
    refine Wp.bind.mpr (h2.mono (fun fl e2 g2 w => ?_) fun _ _ _ _ w => w)
    cases fl with
    | nx => exact forD_wp I hs he xs e2 g2 w
    | ct => exact forD_wp I hs he xs e2 g2 w
    | bk => exact w
    | rt v => exact w
theorem mFor_wp {p : Pat} {mi : M (List PyData)} {mb : M Fl} {K : Fl → Env' → G → Prop} {E : Str → PyData → Env' → G → Prop} {env env1 : Env'} {g g1 : G} {xs : List PyData} (I : List PyData → Env' → G → Prop) (hi : mi env g = .ok xs env1 g1) (h0 : I xs env1 g1)
    (hs : ∀ x rest e g, I (x :: rest) e g → ∃ e1, asg p x e = some e1 ∧ Wp (mb e1 g) (fun fl e2 g2 => match fl with
      | .nx => I rest e2 g2
      | .ct => I rest e2 g2
      | .bk => K .nx e2 g2
      | .rt v => K (.rt v) e2 g2) E)
    (he : ∀ e g, I [] e g → K .nx e g) : Wp (mFor p mi mb env g) K E := by
  unfold mFor
  simp only [M.bind, hi]
  exact forD_wp I hs he xs env1 g1 h0
/-- a loop whose body goes on, by a step of the slots -/
theorem forD_fold {p : Pat} {mb : M Fl} {g : G} (st : Env' → PyData → Env') : ∀ (xs : List PyData) (e : Env'), (∀ x ∈ xs, ∀ pre, pre ++ [x] <+: xs → ∃ e1, asg p x (pre.foldl st e) = some e1 ∧ mb e1 g = .ok .nx (st (pre.foldl st e) x) g) → forD p mb xs e g = .ok .nx (xs.foldl st e) g
  | [], e, _ => rfl
  | x :: xs, e, h => by
    obtain ⟨e1, h1, h2⟩ := h x (by simp) [] (by simp)
    unfold forD
    simp only [List.foldl_nil] at h1 h2
    simp only [h1, M.bind, h2]
    rw [forD_fold st xs (st e x) fun y hy pre hp => by
      have := h y (List.mem_cons_of_mem _ hy) (x :: pre) (by simpa using hp)
      simpa using this]
    rfl
/-! calls -/
theorem mCall_ok {n : Nat} {fm : FM} {m : M (List EV)} {env env1 e2 : Env'} {g g1 g2 : G} {evs : List EV} {ev : EV} (hm : m env g = .ok evs env1 g1) (ha : evs.all isArg = true) (hn : evs.length = n) (h : fm evs g1 = .ok ev e2 g2) : mCall n fm m env g = .ok ev env1 g2 := by
  unfold mCall
  simp only [M.bind, hm]
  rw [if_pos ⟨ha, hn⟩, h]
theorem mCall_wp {n : Nat} {fm : FM} {m : M (List EV)} {env : Env'} {g : G} {K : EV → Env' → G → Prop} {E : Str → PyData → Env' → G → Prop} (hm : Wp (m env g) (fun evs env1 g1 => evs.all isArg = true ∧ evs.length = n ∧ WpF (fm evs g1) fun ev g2 => K ev env1 g2) E) : Wp (mCall n fm m env g) K E := by
  unfold mCall
  refine Wp.bind.mpr (hm.mono (fun evs env1 g1 w => ?_) fun _ _ _ _ w => w)
  obtain ⟨ha, hn, w⟩ := w
  rw [if_pos ⟨ha, hn⟩]
  cases q : fm evs g1 with
  | ok ev e2 g2 => rw [q] at w; exact w
  | exc _ _ _ _ => rw [q] at w; exact w.elim
  | bad => rw [q] at w; exact w.elim
theorem wpf_run {n : Nat} {mb : M Fl} {evs : List EV} {g : G} {K : EV → G → Prop} (h : Wp (mb (startE n evs) g) (fun fl _ g' => match fl with
    | .rt (.bo _) => False
    | .rt (.scr _) => False
    | .rt ev => K ev g'
    | .nx => K (.d .none) g'
    | _ => False) NoX) : WpF (bodyRun n mb evs g) K := by
  unfold bodyRun
  cases q : mb (startE n evs) g with
  | bad => rw [q] at h; exact h.elim
  | exc _ _ _ _ => rw [q] at h; exact h.elim
  | ok fl e g' =>
    rw [q] at h
    cases fl with
    | nx => exact h
    | bk => exact h
    | ct => exact h
    | rt v => cases v <;> exact h
theorem WpF.of {r : R EV} {ev : EV} {e : Env'} {g : G} {K : EV → G → Prop} (h : r = .ok ev e g) (k : K ev g) : WpF r K := by rw [h]; exact k
/-! isinstance, by cases -/
theorem isi_int_none  : isiD "int" .none = false := rfl
theorem isi_int_bool (b : Bool) : isiD "int" (.bool b) = true := rfl
theorem isi_int_int (i : Int) : isiD "int" (.int i) = true := rfl
theorem isi_int_str (z : Str) : isiD "int" (.str z) = false := rfl
theorem isi_int_list (ds : List PyData) : isiD "int" (.list ds) = false := rfl
theorem isi_int_tuple (ds : List PyData) : isiD "int" (.tuple ds) = false := rfl
theorem isi_int_dict (kv : List (PyData × PyData)) : isiD "int" (.dict kv) = false := rfl
theorem isi_bool_none  : isiD "bool" .none = false := rfl
theorem isi_bool_bool (b : Bool) : isiD "bool" (.bool b) = true := rfl
theorem isi_bool_int (i : Int) : isiD "bool" (.int i) = false := rfl
theorem isi_bool_str (z : Str) : isiD "bool" (.str z) = false := rfl
theorem isi_bool_list (ds : List PyData) : isiD "bool" (.list ds) = false := rfl
theorem isi_bool_tuple (ds : List PyData) : isiD "bool" (.tuple ds) = false := rfl
theorem isi_bool_dict (kv : List (PyData × PyData)) : isiD "bool" (.dict kv) = false := rfl
theorem isi_str_none  : isiD "str" .none = false := rfl
theorem isi_str_bool (b : Bool) : isiD "str" (.bool b) = false := rfl
theorem isi_str_int (i : Int) : isiD "str" (.int i) = false := rfl
theorem isi_str_str (z : Str) : isiD "str" (.str z) = true := rfl
theorem isi_str_list (ds : List PyData) : isiD "str" (.list ds) = false := rfl
theorem isi_str_tuple (ds : List PyData) : isiD "str" (.tuple ds) = false := rfl
theorem isi_str_dict (kv : List (PyData × PyData)) : isiD "str" (.dict kv) = false := rfl
theorem isi_tuple_none  : isiD "tuple" .none = false := rfl
theorem isi_tuple_bool (b : Bool) : isiD "tuple" (.bool b) = false := rfl
theorem isi_tuple_int (i : Int) : isiD "tuple" (.int i) = false := rfl
theorem isi_tuple_str (z : Str) : isiD "tuple" (.str z) = false := rfl
theorem isi_tuple_list (ds : List PyData) : isiD "tuple" (.list ds) = false := rfl
theorem isi_tuple_tuple (ds : List PyData) : isiD "tuple" (.tuple ds) = true := rfl
theorem isi_tuple_dict (kv : List (PyData × PyData)) : isiD "tuple" (.dict kv) = false := rfl
theorem isi_list_none  : isiD "list" .none = false := rfl
theorem isi_list_bool (b : Bool) : isiD "list" (.bool b) = false := rfl
theorem isi_list_int (i : Int) : isiD "list" (.int i) = false := rfl
theorem isi_list_str (z : Str) : isiD "list" (.str z) = false := rfl
theorem isi_list_list (ds : List PyData) : isiD "list" (.list ds) = true := rfl
theorem isi_list_tuple (ds : List PyData) : isiD "list" (.tuple ds) = false := rfl
theorem isi_list_dict (kv : List (PyData × PyData)) : isiD "list" (.dict kv) = false := rfl
/-! ### ints -/
def isort (ns : List Int) : List Int := ns.mergeSort fun a b => decide (a ≤ b)
theorem alike_ints (ns : List Int) : ((ns.map PyData.int).all fun d => (ns.map PyData.int).all fun d' => PySem.W.alike d d') = true := by
  simp [PySem.W.alike]
theorem sortOk_ints (ns : List Int) : sortOk (ns.map .int) = true := by
  unfold sortOk
  rw [alike_ints]
  simp [plainKey, PyData.depth]
theorem sortD_ints (ns : List Int) : sortD (ns.map .int) = (isort ns).map .int := by
  unfold sortD isort
  have h := PySem.W.sort_maps (r := PySem.W.dataLe false fun n : Int => PyData.int n) (s := PySem.W.dataLe false (id : PyData → PyData)) (fun n : Int => PyData.int n) (l := ns) fun a _ b _ => rfl
  rw [← h, PySem.W.dataLe_int (fun n : Int => n)]
theorem eqvAll_ints : ∀ a b : List Int, PyData.eqvAll (a.map .int) (b.map .int) = decide (a = b)
  | [], [] => by simp [PyData.eqvAll]
  | [], b :: bs => by simp [PyData.eqvAll]
  | a :: as, [] => by simp [PyData.eqvAll]
  | a :: as, b :: bs => by
    simp only [List.map_cons, PyData.eqvAll, PyData.eqv, eqvAll_ints as bs, List.cons.injEq]
    by_cases h1 : a = b <;> by_cases h2 : as = bs <;> simp [h1, h2]
theorem canLay_ints : ∀ a : List Int, PyData.canLayAll0 (a.map .int) = true
  | [] => by simp [PyData.canLayAll0]
  | a :: as => by simp [PyData.canLayAll0, PyData.canLay0, canLay_ints as]
theorem depth_ints : ∀ a : List Int, PyData.depthAll (a.map .int) = 0
  | [] => by simp [PyData.depthAll]
  | a :: as => by simp [PyData.depthAll, PyData.depth, depth_ints as]
theorem shaped_lints (a : List Int) : SeqAt.shaped (.list (a.map .int)) = true := by
  simp [SeqAt.shaped, PyData.canLay0, PyData.depth, canLay_ints, depth_ints]
theorem shaped_tints (a : List Int) : SeqAt.shaped (.tuple (a.map .int)) = true := by
  simp [SeqAt.shaped, PyData.canLay0, PyData.depth, canLay_ints, depth_ints]
theorem shaped_int (i : Int) : SeqAt.shaped (.int i) = true := by
  simp [SeqAt.shaped, PyData.canLay0, PyData.depth]
theorem eq_lints (a b : List Int) : pyEq (.list (a.map .int)) (.list (b.map .int)) = some (.d (.bool (decide (a = b)))) := by
  unfold pyEq eqOk
  rw [shaped_lints, shaped_lints]
  simp [PyData.eqv, eqvAll_ints]
theorem eq_tints (a b : List Int) : pyEq (.tuple (a.map .int)) (.tuple (b.map .int)) = some (.d (.bool (decide (a = b)))) := by
  unfold pyEq eqOk
  rw [shaped_tints, shaped_tints]
  simp [PyData.eqv, eqvAll_ints]
theorem ne_tints (a b : List Int) : pyNe (.tuple (a.map .int)) (.tuple (b.map .int)) = some (.d (.bool (decide (a ≠ b)))) := by
  unfold pyNe eqOk
  rw [shaped_tints, shaped_tints]
  simp [PyData.eqv, eqvAll_ints]
theorem eq_ints (a b : Int) : pyEq (.int a) (.int b) = some (.d (.bool (decide (a = b)))) := by
  unfold pyEq eqOk
  rw [shaped_int, shaped_int]
  by_cases h : a = b <;> simp [PyData.eqv, h]
theorem ne_ints (a b : Int) : pyNe (.int a) (.int b) = some (.d (.bool (decide (a ≠ b)))) := by
  unfold pyNe eqOk
  rw [shaped_int, shaped_int]
  by_cases h : a = b <;> simp [PyData.eqv, h]
theorem ne_nil (ds : List PyData) : pyNe (.list ds) (.list []) = some (.d (.bool (decide (ds ≠ [])))) := by
  cases ds with
  | nil => rfl
  | cons d ds => simp [pyNe, eqOk, otherLen, PyData.eqv, PyData.eqvAll]
/-- small ints from 0 -/
def ints0 (n : Nat) : List Int := (List.range n).map fun i : Nat => (i : Int)
theorem intsFrom_zero (n : Nat) : intsFrom 0 n = (ints0 n).map .int := by
  simp [intsFrom, ints0, Function.comp_def]
theorem rgInts_zero (n : Nat) : rgInts 0 (n : Int) = (ints0 n).map .int := by
  simp [rgInts, ints0, Function.comp_def]
theorem ints0_length (n : Nat) : (ints0 n).length = n := by simp [ints0]
theorem rgOk_nat {n : Nat} (h : n ≤ 2 ^ 24) : rgOk 0 (n : Int) = true := by
  unfold rgOk
  simp only [Bool.and_eq_true, decide_eq_true_eq]
  omega
theorem rgTo_nat {n : Nat} (h : n ≤ 2 ^ 24) : rgTo 0 (n : Int) = some ((ints0 n).map .int) := by
  unfold rgTo
  rw [rgOk_nat h, rgInts_zero]
  rfl
theorem rngTo_nat {n : Nat} (h : n ≤ 2 ^ 24) : rngTo 0 (n : Int) = some ((ints0 n).map .int) := by
  unfold rngTo
  rw [if_pos (by omega), Int.sub_zero, Int.toNat_natCast, intsFrom_zero]
theorem szd_of {ds : List PyData} (h : ds.length ≤ 2 ^ 24) : szd ds = some ds := by
  unfold szd
  rw [if_pos (by rw [sizeLine_eq]; omega)]
theorem add_tups {a b : List PyData} (h : a.length + b.length ≤ 2 ^ 24) : pyAdd (.tuple a) (.tuple b) = some (.d (.tuple (a ++ b))) := by
  have : a.length + b.length ≤ sizeLine := by rw [sizeLine_eq]; omega
  simp [pyAdd, this]
theorem add_lsts {a b : List PyData} (h : a.length + b.length ≤ 2 ^ 24) : pyAdd (.list a) (.list b) = some (.fr (.list (a ++ b))) := by
  have : a.length + b.length ≤ sizeLine := by rw [sizeLine_eq]; omega
  simp [pyAdd, this]
theorem add_ints (i j : Int) : pyAdd (.int i) (.int j) = some (.d (.int (i + j))) := rfl
theorem len_tup (ds : List PyData) : DL.pyLen [.tuple ds] = some (.d (.int (ds.length : Nat))) := rfl
theorem len_lst (ds : List PyData) : DL.pyLen [.list ds] = some (.d (.int (ds.length : Nat))) := rfl
theorem mRgL_nat {f : List PyData → RV} {m : M (Int × Int)} {env env1 : Env'} {g g1 : G} {n : Nat} (h : m env g = .ok (0, (n : Int)) env1 g1) (hn : n ≤ 2 ^ 24) : mRgL f m env g = .ok (f ((ints0 n).map .int)).ev env1 g1 := by
  unfold mRgL
  rw [bind_eq h, rgGo_eq, rgTo_nat hn]
  rfl
theorem isInt_ints {ds : List PyData} (h : (ds.all fun d => match d with | .int _ => true | _ => false) = true) : ∃ ns : List Int, ds = ns.map .int := by
  induction ds with
  | nil => exact ⟨[], rfl⟩
  | cons d ds ih =>
    rw [List.all_cons, Bool.and_eq_true] at h
    obtain ⟨ns, rfl⟩ := ih h.2
    cases d <;> first | (exact ⟨_ :: ns, rfl⟩) | (simp at h)
theorem get_cells (s : Src) : srcGetD s "cells" = some (.src true) := rfl
theorem get_left (s : Src) : srcGetD s "left" = some (.d (.int s.left)) := rfl
theorem get_mixed (s : Src) : srcGetD s "mixed" = some (.d (.int s.mixed)) := rfl
theorem get_turn (s : Src) : srcGetD s "turn" = some (.d (.int s.turn)) := rfl
theorem put_left (s : Src) (i : Int) : srcPutD s "left" i = some { s with left := i } := rfl
theorem put_mixed (s : Src) (i : Int) : srcPutD s "mixed" i = some { s with mixed := i } := rfl
theorem put_turn (s : Src) (i : Int) : srcPutD s "turn" i = some { s with turn := i } := rfl
theorem lt_ints (i j : Int) : pyCmpI (fun i j => decide (i < j)) (.int i) (.int j) = some (.d (.bool (decide (i < j)))) := rfl
theorem gt_ints (i j : Int) : pyCmpI (fun i j => decide (j < i)) (.int i) (.int j) = some (.d (.bool (decide (j < i)))) := rfl
theorem le_ints (i j : Int) : pyCmpI (fun i j => decide (i ≤ j)) (.int i) (.int j) = some (.d (.bool (decide (i ≤ j)))) := rfl
theorem ge_ints (i j : Int) : pyCmpI (fun i j => decide (j ≤ i)) (.int i) (.int j) = some (.d (.bool (decide (j ≤ i)))) := rfl
theorem int_int (i : Int) : pyInt [.int i] = some (.d (.int i)) := rfl
theorem max2_ints (i j : Int) : pyMax2 [.int i, .int j] = some (.d (.int (max i j))) := by
  have e : (if j > i then j else i) = max i j := by
    by_cases h : j > i
    · rw [if_pos h, Int.max_eq_right (by omega)]
    · rw [if_neg h, Int.max_eq_left (by omega)]
  show some (RV.d (.int (if j > i then j else i))) = _
  rw [e]
theorem mod_ints {i j : Int} (h : 0 < j) : pyMod (.int i) (.int j) = some (.d (.int (i % j))) := by simp [pyMod, h]
theorem fdiv_ints {i j : Int} (h : 0 < j) (h2 : j ≤ 1000000000) : pyFloorDiv (.int i) (.int j) = some (.d (.int (i / j))) := by
  have : j.natAbs.log2 < 9000 := by
    have h3 : j.natAbs < 2 ^ 30 := by omega
    have := (Nat.log2_lt (by omega)).mpr h3
    omega
  simp [pyFloorDiv, h, this]
theorem mul_right {i j : Int} (h : j.natAbs < 2 ^ 64) : pyMul (.int i) (.int j) = some (.d (.int (i * j))) := by
  have : mulOk i j = true := by simp [mulOk, h]
  simp [pyMul, this]
end DL
namespace DL
open PySem L2
/-! ### data that is small: what repr asks -/
def atomOk : PyData → Bool
  | .none => true
  | .bool _ => true
  | .int i => decide (i.natAbs < 10 ^ 40)
  | .str z => decide ((reprText z).length ≤ 50)
  | .dict kvs => kvs.isEmpty
  | _ => false
/-- at most k rows within one another, at most 12 items in each -/
def RL : Nat → PyData → Bool
  | 0, x => atomOk x
  | k + 1, x => atomOk x || match x with
    | .list ds => decide (ds.length ≤ 12) && ds.all (RL k)
    | .tuple ds => decide (ds.length ≤ 12) && ds.all (RL k)
    | _ => false
def bnd : Nat → Nat
  | 0 => 60
  | k + 1 => 4 + 12 * (bnd k + 2)
theorem textFrom_le {b : Nat} : ∀ (ts : List Str) (k : Nat) (acc : Str), (∀ t ∈ ts, t.length ≤ b) → (textFrom k acc ts).length ≤ acc.length + ts.length * (b + 2)
  | [], k, acc, _ => by show acc.length ≤ _; omega
  | t :: r, k, acc, h => by
    have ih := textFrom_le r (k + 1) (acc ++ (if k > 0 then ", " else "" : String) ++ t) fun x hx => h x (List.mem_cons_of_mem _ hx)
    have e : (acc ++ (if k > 0 then ", " else "" : String) ++ t).length ≤ acc.length + 2 + t.length := by
      rw [strLen_append, strLen_append]
      split
      · exact Nat.le_refl _
      · show acc.length + 0 + t.length ≤ _
        omega
    have ht := h t (by simp)
    rw [List.length_cons, Nat.add_mul, Nat.one_mul]
    show (textFrom (k + 1) _ r).length ≤ _
    omega
theorem listText_le {b : Nat} {ts : List Str} (h : ∀ t ∈ ts, t.length ≤ b) : (listText ts).length ≤ 4 + ts.length * (b + 2) := by
  have h1 := textFrom_le ts 0 "[" h
  have e0 : ("[" : Str).length = 1 := rfl
  have e1 : ("]" : Str).length = 1 := rfl
  unfold listText
  rw [strLen_append, e1]
  rw [e0] at h1
  omega
theorem piled_le {b : Nat} : ∀ {ts : List Str}, (∀ t ∈ ts, t.length ≤ b) → piled ts ≤ ts.length * (b + 2)
  | [], _ => by simp [piled]
  | t :: r, h => by
    have ih := piled_le (ts := r) fun x hx => h x (List.mem_cons_of_mem _ hx)
    have ht := h t (by simp)
    rw [List.length_cons, Nat.add_mul, Nat.one_mul]
    simp only [piled, List.map_cons, List.sum_cons] at ih ⊢
    omega
theorem tupleText_le {b : Nat} {ts : List Str} (h : ∀ t ∈ ts, t.length ≤ b) : (tupleText ts).length ≤ 4 + ts.length * (b + 2) := by
  have h1 := piled_le h
  have hj : (Str.join ", " ts).length ≤ piled ts := by
    by_cases z : ts = []
    · subst z; exact Nat.le_refl _
    · have := join_length_add ts z
      omega
  have e0 : ("(" : Str).length = 1 := rfl
  unfold tupleText
  rw [strLen_append, strLen_append, e0]
  split
  · show 1 + _ + 2 ≤ _
    omega
  · show 1 + _ + 1 ≤ _
    omega
theorem shownAll_mem : ∀ {ds : List PyData} {t : Str}, t ∈ PyData.shownAll ds → ∃ d ∈ ds, t = d.shown
  | [], t, h => by simp [PyData.shownAll] at h
  | d :: ds, t, h => by
    rw [PyData.shownAll] at h
    rcases List.mem_cons.mp h with q | q
    · exact ⟨d, by simp, q⟩
    · obtain ⟨e, he, q⟩ := shownAll_mem q
      exact ⟨e, List.mem_cons_of_mem _ he, q⟩
theorem shownAll_len : ∀ ds : List PyData, (PyData.shownAll ds).length = ds.length
  | [] => rfl
  | d :: ds => by rw [PyData.shownAll, List.length_cons, shownAll_len ds, List.length_cons]
theorem showableAll_of : ∀ {ds : List PyData}, (∀ d ∈ ds, d.showable = true) → PyData.showableAll ds = true
  | [], _ => by simp [PyData.showableAll]
  | d :: ds, h => by
    rw [PyData.showableAll, h d (by simp), showableAll_of fun x hx => h x (List.mem_cons_of_mem _ hx)]
    rfl
theorem depthAll_le {k : Nat} : ∀ {ds : List PyData}, (∀ d ∈ ds, d.depth ≤ k) → PyData.depthAll ds ≤ k
  | [], _ => by simp [PyData.depthAll]
  | d :: ds, h => by
    have h1 := h d (by simp)
    have h2 := depthAll_le (ds := ds) fun x hx => h x (List.mem_cons_of_mem _ hx)
    rw [PyData.depthAll]
    omega
theorem atom_shown {x : PyData} (h : atomOk x = true) : x.showable = true ∧ x.depth ≤ 1 ∧ x.shown.length ≤ 60 := by
  cases x with
  | none => exact ⟨by simp [PyData.showable], by simp [PyData.depth], by simp only [PyData.shown]; decide⟩
  | bool b => exact ⟨by simp [PyData.showable], by simp [PyData.depth], by cases b <;> (simp only [PyData.shown]; decide)⟩
  | int i =>
    have h1 : i.natAbs < 10 ^ 40 := of_decide_eq_true h
    have h2 : i.natAbs.log2 < 1920 := by
      by_cases z : i.natAbs = 0
      · rw [z]; decide
      · exact (Nat.log2_lt z).mpr (Nat.lt_trans h1 (by decide))
    refine ⟨by simp [PyData.showable, h2], by simp [PyData.depth], ?_⟩
    have := int_text_length_le10 (a := i) (k := 40) (by omega) h1
    simp only [PyData.shown]
    show (Str.ofString (toString i)).length ≤ 60
    rw [ofString_length]
    omega
  | str z => exact ⟨by simp [PyData.showable], by simp [PyData.depth], by
      have h1 : (reprText z).length ≤ 50 := of_decide_eq_true h
      simp only [PyData.shown]
      omega⟩
  | dict kvs =>
    have : kvs = [] := by simpa [atomOk] using h
    subst this
    exact ⟨by simp [PyData.showable, PyData.showableKv], by simp [PyData.depth, PyData.depthKv], by simp only [PyData.shown, PyData.shownKv]; decide⟩
  | list ds => cases h
  | tuple ds => cases h
theorem bnd_ge : ∀ k : Nat, 60 ≤ bnd k
  | 0 => Nat.le_refl _
  | k + 1 => by have := bnd_ge k; show 60 ≤ 4 + 12 * (bnd k + 2); omega
theorem RL_shown : ∀ (k : Nat) (x : PyData), RL k x = true → x.showable = true ∧ x.depth ≤ k + 1 ∧ x.shown.length ≤ bnd k
  | 0, x, h => by
    obtain ⟨h1, h2, h3⟩ := atom_shown h
    exact ⟨h1, h2, h3⟩
  | k + 1, x, h => by
    unfold RL at h
    rw [Bool.or_eq_true] at h
    rcases h with h | h
    · obtain ⟨h1, h2, h3⟩ := atom_shown h
      refine ⟨h1, by omega, ?_⟩
      show _ ≤ 4 + 12 * (bnd k + 2)
      have := bnd_ge k
      omega
    · have core : ∀ ds : List PyData, ds.length ≤ 12 → (∀ d ∈ ds, RL k d = true) → PyData.showableAll ds = true ∧ PyData.depthAll ds ≤ k + 1 ∧ (∀ t ∈ PyData.shownAll ds, t.length ≤ bnd k) := fun ds _ ha =>
        ⟨showableAll_of fun d hd => (RL_shown k d (ha d hd)).1, depthAll_le fun d hd => (RL_shown k d (ha d hd)).2.1, fun t ht => by
          obtain ⟨d, hd, rfl⟩ := shownAll_mem ht
          exact (RL_shown k d (ha d hd)).2.2⟩
      cases x with
      | list ds =>
        rw [Bool.and_eq_true, decide_eq_true_eq, List.all_eq_true] at h
        obtain ⟨c1, c2, c3⟩ := core ds h.1 h.2
        refine ⟨by simpa [PyData.showable] using c1, by simp only [PyData.depth]; omega, ?_⟩
        have := listText_le c3
        rw [shownAll_len] at this
        simp only [PyData.shown]
        show _ ≤ 4 + 12 * (bnd k + 2)
        have : ds.length * (bnd k + 2) ≤ 12 * (bnd k + 2) := Nat.mul_le_mul_right _ h.1
        omega
      | tuple ds =>
        rw [Bool.and_eq_true, decide_eq_true_eq, List.all_eq_true] at h
        obtain ⟨c1, c2, c3⟩ := core ds h.1 h.2
        refine ⟨by simpa [PyData.showable] using c1, by simp only [PyData.depth]; omega, ?_⟩
        have := tupleText_le c3
        rw [shownAll_len] at this
        simp only [PyData.shown]
        show _ ≤ 4 + 12 * (bnd k + 2)
        have : ds.length * (bnd k + 2) ≤ 12 * (bnd k + 2) := Nat.mul_le_mul_right _ h.1
        omega
      | _ => cases h
theorem RL_up : ∀ (k : Nat) (x : PyData), RL k x = true → RL (k + 1) x = true
  | 0, x, h => by unfold RL; rw [show atomOk x = true from h]; rfl
  | k + 1, x, h => by
    unfold RL at h ⊢
    rw [Bool.or_eq_true] at h ⊢
    refine h.imp id fun h => ?_
    cases x with
    | list ds =>
      rw [Bool.and_eq_true, List.all_eq_true] at h ⊢
      exact ⟨h.1, fun d hd => RL_up k d (h.2 d hd)⟩
    | tuple ds =>
      rw [Bool.and_eq_true, List.all_eq_true] at h ⊢
      exact ⟨h.1, fun d hd => RL_up k d (h.2 d hd)⟩
    | _ => exact h
theorem RL_le {j k : Nat} {x : PyData} (h : RL j x = true) (e : j ≤ k) : RL k x = true := by
  induction e with
  | refl => exact h
  | step _ ih => exact RL_up _ _ ih
theorem RL_repr {x : PyData} (h : RL 4 x = true) : reprOk x = true := by
  obtain ⟨h1, h2, h3⟩ := RL_shown 4 x h
  have h4 : x.shown.length ≤ sizeLine := by
    rw [sizeLine_eq]
    exact Nat.le_trans h3 (by decide)
  unfold reprOk
  rw [h1, decide_eq_true (show x.depth ≤ 60 by omega), decide_eq_true h4]
  rfl
end DL
namespace DL
open PySem L2
/-! ### a op b op c -/
def mChain (g1 g2 : PyData → PyData → Option RV) (ma mb mc : M EV) : M EV := ma.bind fun a => mb.bind fun b => fun env g =>
  match look env a, look env b with
  | some x, some y => match g1 x y with
    | some (.d (.bool k)) => if k then (mc.bind fun c => fun env g => match look env b, look env c with
        | some y, some z => M.opt ((g2 y z).map RV.ev) env g
        | _, _ => .bad) env g else .ok (.d (.bool false)) env g
    | _ => .bad
  | _, _ => .bad
section
variable {X : Cx} {C : DCx} {pos : Pos}
theorem simChain {r r' : R2} {gop gop' : PyData → PyData → Option RV} {ta tb tc : TE} {ma mb mc : M EV} (ha : SimE C ta ma) (hb : SimE C tb mb) (hc : SimE C tc mc)
    (hr : ∀ (F H : Hp) (v w : V) (x y : PyData) (Q : VK) (ev : RV), Same F H → Bor C.K F H v x → Bor C.K F H w y → gop x y = some ev → ResK C.K F H Q ev → r v w H Q)
    (hr' : ∀ (F H : Hp) (v w : V) (x y : PyData) (Q : VK) (ev : RV), Same F H → Bor C.K F H v x → Bor C.K F H w y → gop' x y = some ev → ResK C.K F H Q ev → r' v w H Q) : SimE C (tChain r r' ta tb tc) (mChain gop gop' ma mb mc) := by
  intro σ F H l env g Q R w
  refine ha σ F H l env g _ R (Wp.mono (Wp.bind.mp w) (fun a env1 g1 w v F1 H1 l1 R1 x1 r1 f1 => ?_) fun _ _ _ _ w => w)
  refine hb σ F1 H1 l1 env1 g1 _ R1 (Wp.mono (Wp.bind.mp w) (fun b env2 g2 w u F2 H2 l2 R2 x2 r2 f2 => ?_) fun _ _ _ _ w => w)
  have x02 := x1.trans (C := C) x2
  have r1' := r1.up x2
  split at w
  · rename_i x y e1 e2
    split at w
    · rename_i k hk
      refine hr F2 H2 v u x y _ (.d (.bool k)) R2.sub (r1'.look R2 e1) (r2.look R2 e2) hk fun z F3 H3 nw => ?_
      obtain ⟨R3, x3, r3⟩ := R2.new nw
      refine ⟨k, rep_bool.mp nw.rep, ?_⟩
      cases k with
      | false => exact w _ F3 H3 l2 R3 (x02.trans (C := C) x3) RepEV.ofb trivial
      | true =>
        rw [if_pos rfl] at w ⊢
        refine hc σ F3 H3 l2 env2 g2 _ R3 (Wp.mono (Wp.bind.mp w) (fun c env3 g3 wf q F4 H4 l4 R4 x4 r4 f4 => ?_) fun _ _ _ _ w => w)
        have r2' := (r2.up x3).up x4
        split at wf
        · rename_i y' z' e3 e4
          cases hg : gop' y' z' with
          | none => rw [hg] at wf; exact wf.elim
          | some ev =>
            rw [hg] at wf
            exact hr' F4 H4 u q y' z' Q ev R4.sub (r2'.look R4 e3) (r4.look R4 e4) hg (KE.res R4 (KE.up wf ((x02.trans (C := C) x3).trans (C := C) x4)))
        · exact wf.elim
    · exact w.elim
  · exact w.elim
theorem de_chain {a b c : Expr} {op op' : CmpOp} {gop gop' : PyData → PyData → Option RV} {ma mb mc : M EV} (ho : OpD X (compareOp op) gop) (ho' : OpD X (compareOp op') gop') (ha : DE X C a ma) (hb : DE X C b mb) (hc : DE X C c mc)
    (hm : lastMarks [op, op'] [b, c] = false := by with_unfolding_all rfl) : DE X C (.Compare a [op, op'] [b, c] pos) (mChain gop gop' ma mb mc) := by
  refine ⟨fun hK => ?_⟩
  obtain ⟨ta, h1, s1⟩ := ha.run hK
  obtain ⟨tb, h2, s2⟩ := hb.run hK
  obtain ⟨tc, h3, s3⟩ := hc.run hK
  obtain ⟨r, hr, hs⟩ := ho
  obtain ⟨r', hr', hs'⟩ := ho'
  exact ⟨_, pe_chain hr hr' h1 h2 h3 hm, simChain s1 s2 s3 (by rw [hK]; exact hs) (by rw [hK]; exact hs')⟩
theorem dt_chain {a b c : Expr} {op op' : CmpOp} {gop gop' : PyData → PyData → Option RV} {ma mb mc : M EV} (ho : OpD X (compareOp op) gop) (ho' : OpD X (compareOp op') gop') (ha : DE X C a ma) (hb : DE X C b mb) (hc : DE X C c mc)
    (hm : lastMarks [op, op'] [b, c] = false := by with_unfolding_all rfl) : DT X C (.Compare a [op, op'] [b, c] pos) ((mChain gop gop' ma mb mc).bind mBool) := by
  refine ⟨fun hK => ?_⟩
  obtain ⟨ta, h1, s1⟩ := ha.run hK
  obtain ⟨tb, h2, s2⟩ := hb.run hK
  obtain ⟨tc, h3, s3⟩ := hc.run hK
  obtain ⟨r, hr, hs⟩ := ho
  obtain ⟨r', hr', hs'⟩ := ho'
  exact ⟨_, pt_chain hr hr' h1 h2 h3 hm, simTest (simChain s1 s2 s3 (by rw [hK]; exact hs) (by rw [hK]; exact hs'))⟩
end
/-! ### (*a, b) -/
def tStar (K : PySem.W.Frag) (te : TE) (t : TA) : TA := fun σ H Q => te σ H fun x H1 => ∃ a xs, x = .ref a ∧ (SqL K H1 a xs ∨ SqT K H1 a xs) ∧ t σ H1 fun vs H2 => Q (xs ++ vs) H2
section
open PySem.W
variable {X : Cx} {e : Expr} {es : List Expr} {te : TE} {t : TA} {p : Pos}
theorem pa_star (he : PE X e te) (hr : PA X es t) (hs : starEach (.Starred e p :: es) X.env = (true, eval e X.env) :: starEach es X.env := by rfl) : PA X (.Starred e p :: es) (tStar X.K te t) := by
  refine ⟨fun pos pins s σ H Q I h => ?_⟩
  refine items_star (thn (he.run pins s σ H _ I h) fun v s1 ⟨x, H1, I1, r1, a, xs, ex, hx, q⟩ => ?_) hs
  subst ex
  cases r1
  have go : ∀ (its : List Value) (h' : Heap), Vals xs its → (∀ b o, s1.heap.get? b = some o → h'.get? b = some o) → wpAny (model X.prog X.w) X.A (spliced (backTo pos (starEach es X.env))) (fun vs s3 => AP X pins σ Q (its ++ vs) s3) X.xe { s1 with heap := h' } := fun its h' rv hk =>
    thn (hr.run pos pins { s1 with heap := h' } σ H1 _ (I1.kept (t' := s1.toks) hk) q) fun us s3 ⟨vs, H2, I2, r2, q2⟩ => ⟨xs ++ vs, H2, I2, rv.append r2, q2⟩
  unfold StarOf notIterableAtAll
  rcases hx with hx | hx
  · obtain ⟨its, rv, ⟨o, n, ho, hc, hd, hdat⟩, hz⟩ := I1.list hx
    have hT : s1.TypeIs (.ref a) "list" := ⟨o, ho, hc⟩
    refine wpAny_bind (wpAny_specialOf hT PySem.F.slot_list_iter.lookup (wpAny_pure ⟨rfl, ?_⟩))
    exact wpAny_collect_seq a (.inl rfl) ho hc hdat (fun h' hk => by simpa using go its h' rv hk) (by rw [List.size_toArray, ← rv.length]; exact hz)
  · obtain ⟨its, rv, ⟨o, ho, hc, n, hdat⟩, hz⟩ := I1.tuple hx
    have hT : s1.TypeIs (.ref a) "tuple" := ⟨o, ho, hc⟩
    refine wpAny_bind (wpAny_specialOf hT PySem.F.slot_tuple_iter.lookup (wpAny_pure ⟨rfl, ?_⟩))
    exact wpAny_collect_seq a (.inr rfl) ho hc hdat (fun h' hk => by simpa using go its h' rv hk) (by rw [List.size_toArray, ← rv.length]; exact hz)
end
def mStar (ma : M EV) (mr : M (List EV)) : M (List EV) := ma.bind fun a => fun env g => match look env a with
  | some (.list ds) => (mr.bind fun r => M.pure (ds.map EV.d ++ r)) env g
  | some (.tuple ds) => (mr.bind fun r => M.pure (ds.map EV.d ++ r)) env g
  | _ => .bad
theorem paired_rep {C : DCx} {σ : L2.St} {F H H0 : Hp} {l : Loc} {env : Env'} : ∀ {ds : List PyData} {vs : List V}, RepL C.K F vs ds → Paired (fun v ev => RepEV C σ F H l env v ev ∧ FreshAt H0 v ev) vs (ds.map EV.d)
  | [], vs, h => by rw [repL_nil] at h; subst h; exact .nil
  | d :: ds, vs, h => by
    obtain ⟨v, r, rfl, q, t⟩ := repL_cons.mp h
    exact .cons ⟨q, trivial⟩ (paired_rep t)
theorem paired_append {α β : Type} {P : α → β → Prop} : ∀ {xs : List α} {ys : List β} {us : List α} {ws : List β}, Paired P xs ys → Paired P us ws → Paired P (xs ++ us) (ys ++ ws)
  | _, _, _, _, .nil, h => h
  | _, _, _, _, .cons r t, h => .cons r (paired_append t h)
section
variable {X : Cx} {C : DCx} {e : Expr} {es : List Expr} {p : Pos}
theorem da_star {ma : M EV} {mr : M (List EV)} (ha : DE X C e ma) (hr : DA X C es mr) (hs : starEach (.Starred e p :: es) X.env = (true, eval e X.env) :: starEach es X.env := by rfl) : DA X C (.Starred e p :: es) (mStar ma mr) := by
  refine ⟨fun hK => ?_⟩
  obtain ⟨ta, h1, s1⟩ := ha.run hK
  obtain ⟨tr, h2, s2⟩ := hr.run hK
  refine ⟨_, pa_star h1 h2 hs, fun σ F H l env g Q R w => ?_⟩
  refine s1 σ F H l env g _ R (Wp.mono (Wp.bind.mp w) (fun a env1 g1 w v F1 H1 l1 R1 x1 r1 f1 => ?_) fun _ _ _ _ w => w)
  have core : ∀ (ds : List PyData) (b : Addr) (us : List V), v = V.ref b → (SqL X.K H1 b us ∨ SqT X.K H1 b us) → RepL C.K F1 us ds → Wp ((mr.bind fun r => M.pure (ds.map EV.d ++ r)) env1 g1) (KA C σ F H l env Q) (KX C σ) →
      ∃ a xs, v = .ref a ∧ (SqL X.K H1 a xs ∨ SqT X.K H1 a xs) ∧ tr σ H1 fun vs H2 => Q (xs ++ vs) H2 := fun ds b us ev hq rl w => by
    refine ⟨b, us, ev, hq, ?_⟩
    refine s2 σ F1 H1 l1 env1 g1 _ R1 (Wp.mono (Wp.bind.mp w) (fun as env2 g2 w vs F2 H2 l2 R2 x2 r2 => ?_) fun _ _ _ _ w => w)
    exact w (us ++ vs) F2 H2 l2 R2 (x1.trans (C := C) x2) (paired_append (paired_rep (RepL.up x2.fs _ _ rl)) (Paired.imp (fun _ _ q => ⟨q.1, q.2.dn x1.hd⟩) r2))
  split at w
  · rename_i ds e1
    obtain ⟨b, us, ev, q, rl⟩ := (r1.look R1 e1).seq R1.sub
    exact core ds b us ev (.inl (SqL.of q)) rl w
  · rename_i ds e1
    obtain ⟨b, us, ev, q, rl⟩ := (r1.look R1 e1).tup R1.sub
    exact core ds b us ev (.inr (by rw [← hK]; exact q)) rl w
  · exact w.elim
end
end DL
namespace DL
open PySem L2
/-! ### <, <=, >, >= of ints, and of alike tuples -/
def cmpOk (x y : PyData) : Bool := PySem.W.alike x y && decide (x.depth ≤ 50)
def pyCmp (p : Int → Int → Bool) (q : PyData → PyData → Bool) (x y : PyData) : Option RV := match x, y with
  | .int i, .int j => some (.d (.bool (p i j)))
  | .tuple xs, .tuple ys => if cmpOk (.tuple xs) (.tuple ys) then some (.d (.bool (q (.tuple xs) (.tuple ys)))) else none
  | _, _ => none
def pyLt : PyData → PyData → Option RV := pyCmp (fun i j => decide (i < j)) fun x y => PySem.W.dataLt x y
def pyLe : PyData → PyData → Option RV := pyCmp (fun i j => decide (i ≤ j)) fun x y => !PySem.W.dataLt y x
def pyGt : PyData → PyData → Option RV := pyCmp (fun i j => decide (j < i)) fun x y => PySem.W.dataLt y x
def pyGe : PyData → PyData → Option RV := pyCmp (fun i j => decide (j ≤ i)) fun x y => !PySem.W.dataLt x y
section
variable {X : Cx}
theorem opd_cmp {f : Value → Value → Sem Value} {p : Int → Int → Bool} {q : PyData → PyData → Bool} (hu : X.A.units + 64 < cLine) (h : OpR X f (rI0 fun i j => .bl (p i j)))
    (ht : ∀ {A : Around} {E : Value → Shared → Prop} {s : Shared} {a b : Value} {da db : PyData} {as bs : List Addr} {Q : Value → Shared → Prop}, Reads s.heap a da as → Reads s.heap b db bs → PySem.W.alike da db = true → da ≠ .none → A.units + min da.depth db.depth < cLine → Q (.bool (q da db)) s →
      wpAny (model X.prog X.w) A (f a b) Q E s) : OpD X f (pyCmp p q) := by
  refine opd_of ?_
  intro pins s σ H x y v u Q I rx ry hh
  obtain ⟨F, d, e, ev, hs, hd, he, hg, hq⟩ := hh
  cases d <;> cases e <;> first | (cases hg; done) | skip
  · rename_i i j
    cases hg
    exact h pins s σ H x y v u Q I rx ry ⟨i, j, hd.int, he.int, hq.val hs (rep_bool.mpr rfl)⟩
  · rename_i xs ys
    obtain ⟨as, r1⟩ := hd.reads I hs rx
    obtain ⟨bs, r2⟩ := he.reads I hs ry
    obtain ⟨h1, rfl⟩ := if_some hg
    unfold cmpOk at h1
    rw [Bool.and_eq_true] at h1
    have h2 := of_decide_eq_true h1.2
    refine ht r1 r2 h1.1 (fun h => by cases h) (Nat.lt_of_le_of_lt (Nat.add_le_add_left (Nat.min_le_left _ _) _) (by omega)) ?_
    exact ⟨.bl _, H, I, rfl, by simpa using hq.val hs (rep_bool.mpr rfl)⟩
theorem opd_ltX (hu : X.A.units + 64 < cLine) : OpD X (compareOp .Lt) pyLt := opd_cmp hu op_lt fun a b c d e f => PySem.W.lt_data a b c d e f
theorem opd_leX (hu : X.A.units + 64 < cLine) : OpD X (compareOp .LtE) pyLe := opd_cmp hu op_le fun a b c d e f => PySem.W.le_data a b c d e f
theorem opd_gtX (hu : X.A.units + 64 < cLine) : OpD X (compareOp .Gt) pyGt := opd_cmp hu op_gt fun a b c d e f => PySem.W.gt_data a b c d e f
theorem opd_geX (hu : X.A.units + 64 < cLine) : OpD X (compareOp .GtE) pyGe := opd_cmp hu op_ge fun a b c d e f => PySem.W.ge_data a b c d e f
end
theorem ltX_ints (i j : Int) : pyLt (.int i) (.int j) = some (.d (.bool (decide (i < j)))) := rfl
theorem leX_ints (i j : Int) : pyLe (.int i) (.int j) = some (.d (.bool (decide (i ≤ j)))) := rfl
theorem gtX_ints (i j : Int) : pyGt (.int i) (.int j) = some (.d (.bool (decide (j < i)))) := rfl
theorem geX_ints (i j : Int) : pyGe (.int i) (.int j) = some (.d (.bool (decide (j ≤ i)))) := rfl
theorem dataLt_tints (xs ys : List Int) : PySem.W.dataLt (.tuple (xs.map .int)) (.tuple (ys.map .int)) = decide (xs < ys) := by
  rw [PySem.W.dataLt_tuple]
  exact PySem.W.dataLt_ints xs ys
theorem cmpOk_tints (xs ys : List Int) : cmpOk (.tuple (xs.map .int)) (.tuple (ys.map .int)) = true := by
  unfold cmpOk
  rw [Bool.and_eq_true]
  refine ⟨by rw [PySem.W.alike]; exact PySem.W.alike_ints xs ys, ?_⟩
  have h : (PyData.tuple (xs.map .int)).depth = PyData.depthAll (xs.map .int) + 1 := by rw [PyData.depth]
  rw [h, PySem.W.depth_ints]
  rfl
theorem ltX_tints (xs ys : List Int) : pyLt (.tuple (xs.map .int)) (.tuple (ys.map .int)) = some (.d (.bool (decide (xs < ys)))) := by
  show (if cmpOk _ _ then _ else _) = _
  rw [cmpOk_tints, if_pos rfl]; simp only [dataLt_tints]
theorem gtX_tints (xs ys : List Int) : pyGt (.tuple (xs.map .int)) (.tuple (ys.map .int)) = some (.d (.bool (decide (ys < xs)))) := by
  show (if cmpOk _ _ then _ else _) = _
  rw [cmpOk_tints, if_pos rfl]; simp only [dataLt_tints]
theorem leX_tints (xs ys : List Int) : pyLe (.tuple (xs.map .int)) (.tuple (ys.map .int)) = some (.d (.bool (!decide (ys < xs)))) := by
  show (if cmpOk _ _ then _ else _) = _
  rw [cmpOk_tints, if_pos rfl]; simp only [dataLt_tints]
theorem geX_tints (xs ys : List Int) : pyGe (.tuple (xs.map .int)) (.tuple (ys.map .int)) = some (.d (.bool (!decide (xs < ys)))) := by
  show (if cmpOk _ _ then _ else _) = _
  rw [cmpOk_tints, if_pos rfl]; simp only [dataLt_tints]
end DL
namespace DL
open PySem L2
/-! ### plain lists of ints, shared by the laws -/
def isWholeD : PyData → Bool
  | .int _ => true
  | _ => false
theorem boolsOf_mapf {α : Type} (f : α → Bool) : ∀ ds : List α, boolsOf (ds.map fun x => .bool (f x)) = some (ds.map f)
  | [] => rfl
  | d :: ds => by simp [boolsOf, boolsOf_mapf f ds]
theorem all_mapf {α : Type} (f : α → Bool) (ds : List α) : pyAll [.list (ds.map fun x => .bool (f x))] = some (.d (.bool (ds.all f))) := by
  simp [pyAll, boolsOf_mapf, List.all_map]
theorem sorted_tints (ns : List Int) : pySorted [.tuple (ns.map .int)] = some (.fr (.list ((isort ns).map .int))) := by
  simp [pySorted, sortOk_ints, sortD_ints]
theorem sorted_lints (ns : List Int) : pySorted [.list (ns.map .int)] = some (.fr (.list ((isort ns).map .int))) := by
  simp [pySorted, sortOk_ints, sortD_ints]
theorem intsOf_whole : ∀ {ds : List PyData}, (intsOf ds).isSome = ds.all isWholeD
  | [] => rfl
  | d :: ds => by
    cases d <;> simp [intsOf, isWholeD, ← intsOf_whole (ds := ds)]
/-- an order: each place once -/
def isPerm (ns : List Int) : Bool := decide (isort ns = ints0 ns.length)
def isOrdD : PyData → Bool
  | .tuple ds => match intsOf ds with
    | some ns => isPerm ns
    | none => false
  | _ => false
/-- a tuple of ints -/
abbrev ti (ns : List Int) : PyData := .tuple (ns.map .int)
abbrev li (ns : List Int) : PyData := .list (ns.map .int)
def at0 (ns : List Int) (p : Int) : Int := ns.getD p.toNat 0
theorem atI_ints {ns : List Int} {p : Int} (h0 : 0 ≤ p) (h1 : p < ns.length) : atI (ns.map PyData.int) p = some (.int (at0 ns p)) := by
  obtain ⟨k, rfl⟩ := Int.eq_ofNat_of_zero_le h0
  have hk : k < ns.length := by omega
  have e : (ns.map PyData.int)[k]? = some (.int (at0 ns (k : Int))) := by
    simp [at0, List.getElem?_map, hk]
  exact atI_nat e
def ofI (f : Int → Int) : PyData → PyData
  | .int p => .int (f p)
  | _ => .none
theorem map_ofI (f : Int → Int) (ns : List Int) : (ns.map PyData.int).map (ofI f) = (ns.map f).map .int := by
  simp [ofI, Function.comp_def]
def rankI (hs : List Int) (h : Int) : Int := ((isort hs).idxOf h : Nat)
def orderAt (ns ps : List Int) : List Int := (ps.map (at0 ns)).map (rankI (ps.map (at0 ns)))
theorem isort_mem {ns : List Int} {h : Int} : h ∈ isort ns ↔ h ∈ ns := (List.mergeSort_perm _ _).mem_iff
theorem isort_length (ns : List Int) : (isort ns).length = ns.length := (List.mergeSort_perm _ _).length_eq
theorem findIdx_ints (h : Int) : ∀ low : List Int, h ∈ low → (low.map PyData.int).findIdx? (fun z => PyData.eqv z (.int h)) = some (low.idxOf h)
  | [], hm => by simp at hm
  | l :: low, hm => by
    by_cases e : l = h
    · subst e
      simp [List.findIdx?_cons, PyData.eqv]
    · have hm' : h ∈ low := by
        rcases List.mem_cons.mp hm with q | q
        · exact absurd q.symm e
        · exact q
      have eb : (l == h) = false := by simpa using e
      simp [List.findIdx?_cons, PyData.eqv, findIdx_ints h low hm', List.idxOf_cons, eb]
theorem index_ints {hs : List Int} {h : Int} (hm : h ∈ hs) : pyIndex (li (isort hs)) (.int h) = some (.d (.int (rankI hs h))) := by
  have q := findIdx_ints h (isort hs) (isort_mem.mpr hm)
  simp only [pyIndex, shaped_lints, shaped_int, Bool.and_self, if_true, indexD, q, Option.map_some, rankI, oneI]
theorem cut_to {ns : List Int} {i : Int} (h0 : 0 ≤ i) : cutD (ns.map PyData.int) none (some i) = (ns.take i.toNat).map .int := by
  obtain ⟨k, rfl⟩ := Int.eq_ofNat_of_zero_le h0
  unfold cutD
  rw [HT.sIx_none, HT.sIx_nat, List.drop_zero, Nat.sub_zero, Int.toNat_natCast, List.length_map, ← List.map_take]
  congr 1
  by_cases h : k ≤ ns.length
  · rw [Nat.min_eq_left h]
  · rw [Nat.min_eq_right (by omega), List.take_of_length_le (by omega), List.take_of_length_le (by omega)]
theorem cut_one (ds : List PyData) : cutD ds (some 1) none = ds.drop 1 := by
  unfold cutD
  rw [show HT.sIx ds.length 0 (some 1) = min 1 ds.length from HT.sIx_nat ds.length 0 1, HT.sIx_none]
  cases ds with
  | nil => rfl
  | cons d ds =>
    rw [show min 1 (d :: ds).length = 1 by rw [List.length_cons]; omega]
    exact List.take_of_length_le (by simp)
theorem mem_ints0 {n : Nat} {i : Int} : i ∈ ints0 n ↔ 0 ≤ i ∧ i < n := by
  unfold ints0
  rw [List.mem_map]
  constructor
  · rintro ⟨k, hk, rfl⟩
    have := List.mem_range.mp hk
    omega
  · rintro ⟨h0, h1⟩
    exact ⟨i.toNat, List.mem_range.mpr (by omega), by omega⟩
def onI (f : Int → Bool) : PyData → Bool
  | .int p => f p
  | _ => false
theorem filter_onI (f : Int → Bool) : ∀ ns : List Int, (ns.map PyData.int).filter (onI f) = (ns.filter f).map .int
  | [] => rfl
  | n :: ns => by
    by_cases h : f n = true <;> simp [List.filter_cons, onI, h, filter_onI f ns]
theorem map_id_ints (ns : List Int) : (ns.map PyData.int).map id = ns.map .int := by simp
theorem all_bools {α : Type} (f : α → Bool) (ds : List α) : pyAll [.list (ds.map fun x => .bool (f x))] = some (.d (.bool (ds.all f))) := all_mapf f ds
end DL
/-! more words: gcd, three names at once, a list's item stored -/
namespace DL
open PySem L2
def pyGcd : List PyData → Option RV
  | [.int i, .int j] => some (oneI ((Nat.gcd i.natAbs j.natAbs : Nat) : Int))
  | _ => none
theorem calld_gcd {X : Cx} : CallD X (.builtin "math.gcd") pyGcd := by
  refine ⟨_, cr_gcd, fun F H vs xs Q ev hs hb hg hq => ?_⟩
  unfold pyGcd at hg
  split at hg
  · cases hg
    cases hb with | cons b1 b2 => cases b2 with | cons b2 b3 => cases b3; exact ⟨_, _, by rw [b1.int, b2.int], hq.val hs (rep_int.mpr rfl)⟩
  · cases hg
theorem de_callBfun {X : Cx} {C : DCx} {pos : Pos} {es : List Expr} {x : Str} {id : String} {p : Pos} {a : Expr} {gop : List PyData → Option RV} {m : M (List EV)} (hc : CallD X (.builtin id) gop) (hg : Gl X x) (hm : X.mg x = some (.builtin id)) (ha : DA X C (a :: es) m)
    (hdb : (x == ("__debug__" : Str)) = false := by decide) (he : starEach (a :: es) X.env = (false, eval a X.env) :: starEach es X.env := by rfl) (hpl : (backTo pos (starEach es X.env)).any (·.1) = false := by rfl) :
    DE X C (.Call (.Name x p) (a :: es) [] pos) (mCallB gop m) := by
  refine ⟨fun hK => ?_⟩
  obtain ⟨t, ht, s⟩ := ha.run hK
  obtain ⟨r, hr, hs⟩ := hc
  exact ⟨_, pe_callBfun hr hg hm ht hdb he hpl, simCallB s (by rw [hK]; exact hs)⟩
/-- a global constant -/
def Konst (mg : Str → Option Value) (K : PySem.W.Frag) (x : Str) (d : PyData) : Prop := ∃ (u : Value) (v : V), mg x = some u ∧ RelV v u ∧ ∀ F, Rep K F v d
theorem de_konst {X : Cx} {C : DCx} {x : Str} {d : PyData} {p : Pos} (hg : Gl X x) (hm : Konst X.mg X.K x d) (hd : (x == ("__debug__" : Str)) = false := by decide) : DE X C (.Name x p) (mK d) := by
  refine ⟨fun hK => ?_⟩
  obtain ⟨u, v, h1, h2, h3⟩ := hm
  exact (de_glob (C := C) hg h1 h2 (fun F => by rw [hK]; exact h3 F) hd).run hK
theorem konst_int {mg : Str → Option Value} {K : PySem.W.Frag} {x : Str} {i : Int} {t : Nat} (h : mg x = some (.int i t)) : Konst mg K x (.int i) := ⟨_, .int i, h, ⟨t, rfl⟩, fun F => rep_int.mpr rfl⟩
theorem konst_str {mg : Str → Option Value} {K : PySem.W.Frag} {x : Str} {i : Str} {t : Nat} (h : mg x = some (.str i t)) : Konst mg K x (.str i) := ⟨_, .str i, h, ⟨t, rfl⟩, fun F => rep_str.mpr rfl⟩
def AtomsR : List PyData → List Value → Prop
  | [], [] => True
  | .int i :: ds, u :: us => (∃ t, u = .int i t) ∧ AtomsR ds us
  | .str i :: ds, u :: us => (∃ t, u = .str i t) ∧ AtomsR ds us
  | _, _ => False
theorem atomsR {K : PySem.W.Frag} {F : Hp} : ∀ {ds : List PyData} {us : List Value}, AtomsR ds us → ∃ vs, Vals vs us ∧ RepL K F vs ds
  | [], [], _ => ⟨[], .nil, repL_nil.mpr rfl⟩
  | .int i :: ds, u :: us, h => by
    obtain ⟨⟨t, rfl⟩, h⟩ := h
    obtain ⟨vs, h1, h2⟩ := atomsR h
    exact ⟨.int i :: vs, .cons ⟨t, rfl⟩ h1, repL_cons.mpr ⟨_, _, rfl, rep_int.mpr rfl, h2⟩⟩
  | .str i :: ds, u :: us, h => by
    obtain ⟨⟨t, rfl⟩, h⟩ := h
    obtain ⟨vs, h1, h2⟩ := atomsR h
    exact ⟨.str i :: vs, .cons ⟨t, rfl⟩ h1, repL_cons.mpr ⟨_, _, rfl, rep_str.mpr rfl, h2⟩⟩
section
variable {X : Cx} {C : DCx} {pos pos' : Pos} {o e ix : Expr}
theorem ds_par3 {i j k : Nat} {x y z : Str} {a b c : Expr} {m : M (List EV)} {px py pz pt : Pos} {kt k2 : Nat} {pt2 : Pos} (hc : X.calm = true) (hN : X.N.Nodup) (hi : X.N[i]? = some x) (hj : X.N[j]? = some y) (hk : X.N[k]? = some z) (hij : i ≠ j) (hik : i ≠ k) (hjk : j ≠ k)
    (hx : X.env.scope.names.lookup x = some .local) (hy : X.env.scope.names.lookup y = some .local) (hz : X.env.scope.names.lookup z = some .local) (h : DA X C [a, b, c] m)
    (hw : swappedStores [.Tuple [.Name x px, .Name y py, .Name z pz] kt pt] (.Tuple [a, b, c] k2 pt2) X.env = pure (some [x, y, z]))
    (hs : swapsWithSole [.Tuple [.Name x px, .Name y py, .Name z pz] kt pt] (.Tuple [a, b, c] k2 pt2) pos.line X.env = pure false := by rfl) :
    DS X C (.Assign [.Tuple [.Name x px, .Name y py, .Name z pz] kt pt] (.Tuple [a, b, c] k2 pt2) pos) (mPar3 i j k m) := by
  refine ⟨fun hK => ?_⟩
  obtain ⟨t, k1, s1⟩ := h.run hK
  refine ⟨_, ps_par3 hc hN hi hj hk hij hik hjk hx hy hz k1 hw hs, fun σ F H l env g D R w => ?_⟩
  refine s1 σ F H l env g _ R (Wp.mono (Wp.bind.mp w).xs (fun evs env1 g1 w vs F1 H1 l1 R1 x1 r1 => ?_) fun _ _ _ _ w => w)
  split at w
  · rename_i dx dy dz
    cases r1 with
    | cons r1 t1 =>
      cases t1 with
      | cons r2 t2 =>
        cases t2 with
        | cons r3 t3 =>
          cases t3
          exact ⟨_, _, _, rfl, w _ F1 H1 l1 (((R1.setd i r1.1).setd j r2.1).setd k r3.1) x1.fs⟩
  · exact w.elim
/-- a list's item stored: found[k] = v -/
def mPutAt (j : Nat) (mv mi : M PyData) : M Fl := mv.bind fun d => fun env g => if ownIs j env = true then (mi.bind fun x => fun env g =>
  match x, ownL j env with
  | .int k, some ds => match ixN ds.length k with
    | some n => .ok .nx (env.set j (.own (.list (ds.set n d)))) g
    | none => .bad
  | _, _ => .bad) env g else .bad
theorem ds_putAt {j : Nat} {mv mi : M PyData} (ho : PE X o (tVar j)) (hv : DD X C e mv) (hi : DD X C ix mi)
    (ha : ∀ v, assign (.Subscript o ix pos') X.env v = (do
      let ov ← holding [v] (eval o X.env)
      let iv ← holding [v, ov] (eval ix X.env)
      standAt pos'
      holding [v, ov, iv] (setItem ov iv v)
      release [v, ov, iv] []) := by intro _; rfl)
    (hs : swapsWithSole [.Subscript o ix pos'] e pos.line X.env = pure false := by rfl) (hw : swappedStores [.Subscript o ix pos'] e X.env = pure none := by rfl) :
    DS X C (.Assign [.Subscript o ix pos'] e pos) (mPutAt j mv mi) := by
  refine ⟨fun hK => ?_⟩
  obtain ⟨tv, h1, s1⟩ := hv.run hK
  obtain ⟨ti, h2, s2⟩ := hi.run hK
  refine ⟨_, ps_asg h1 (pg_sub ho h2 set_list ha) hs hw, fun σ F H l env g D R w => ?_⟩
  refine s1 σ F H l env g _ R (Wp.mono (Wp.bind.mp w).xs (fun d env1 g1 w v F1 H1 l1 R1 x1 r1 => ?_) fun _ _ _ _ w => w)
  obtain ⟨h0, w⟩ := wp_iteR w
  obtain ⟨ds0, e0⟩ := ownIs_eq h0
  obtain ⟨a, vs0, q1, q2, q3⟩ := R1.ownLst e0
  refine ⟨.ref a, q1, ?_⟩
  refine s2 σ F1 H1 l1 env1 g1 _ R1 (Wp.mono (Wp.bind.mp w).xs (fun x env2 g2 w u F2 H2 l2 R2 x2 r2 => ?_) fun _ _ _ _ w => w)
  split at w
  · rename_i k ds e1
    cases c : ixN ds.length k with
    | none => rw [c] at w; exact w.elim
    | some n =>
      rw [c] at w
      have e1 := ownL_eq e1
      obtain ⟨b, vs, k1, k2, k3⟩ := R2.ownLst e1
      rw [q1] at k1
      cases k1
      have hu : u = .int k := rep_int.mp r2
      subst hu
      obtain ⟨R3, x3⟩ := R2.put e1 q1 (RepL.set (i := n) k3 (Rep.up x2.fs _ _ r1))
      exact ⟨a, vs, k, n, rfl, rfl, k2, by rw [k3.length]; exact c, w σ F2 _ l2 R3 (x1.fs.trans x2.fs)⟩
  · exact w.elim
/-- two names at once, what is new stays one's own -/
def mParF (i j : Nat) (ma mb : M EV) : M Fl := ma.bind fun x => mb.bind fun y => fun env g => match slotOf x, slotOf y with
  | some s, some t => .ok .nx ((env.set i s).set j t) g
  | _, _ => .bad
theorem ds_parF {i j : Nat} {x y : Str} {a b : Expr} {ma mb : M EV} {px py pt : Pos} {kt k2 : Nat} {pt2 : Pos} (hc : X.calm = true) (hN : X.N.Nodup) (hi : X.N[i]? = some x) (hj : X.N[j]? = some y) (hij : i ≠ j)
    (hx : X.env.scope.names.lookup x = some .local) (hy : X.env.scope.names.lookup y = some .local) (ha : DE X C a ma) (hb : DE X C b mb)
    (hw : swappedStores [.Tuple [.Name x px, .Name y py] kt pt] (.Tuple [a, b] k2 pt2) X.env = pure (some [x, y]))
    (hs : swapsWithSole [.Tuple [.Name x px, .Name y py] kt pt] (.Tuple [a, b] k2 pt2) pos.line X.env = pure false := by rfl)
    (na : starEach [a, b] X.env = (false, eval a X.env) :: starEach [b] X.env := by rfl) (nb : starEach [b] X.env = (false, eval b X.env) :: starEach [] X.env := by rfl) :
    DS X C (.Assign [.Tuple [.Name x px, .Name y py] kt pt] (.Tuple [a, b] k2 pt2) pos) (mParF i j ma mb) := by
  refine ⟨fun hK => ?_⟩
  obtain ⟨ta, k1, s1⟩ := ha.run hK
  obtain ⟨tb, k2, s2⟩ := hb.run hK
  refine ⟨_, ps_par hc hN hi hj hij hx hy (pa_cons k1 (pa_cons k2 pa_nil nb) na) hw hs, fun σ F H l env g D R w => ?_⟩
  refine s1 σ F H l env g _ R (Wp.mono (Wp.bind.mp w).xs (fun ev1 env1 g1 w v F1 H1 l1 R1 x1 r1 f1 => ?_) fun _ _ _ _ w => w)
  refine s2 σ F1 H1 l1 env1 g1 _ R1 (Wp.mono (Wp.bind.mp w).xs (fun ev2 env2 g2 w u F2 H2 l2 R2 x2 r2 f2 => ?_) fun _ _ _ _ w => w)
  split at w
  · rename_i z1 z2 e1 e2
    refine ⟨v, u, rfl, w _ F2 H2 l2 ((R2.sets i (r1.up x2) e1).sets j ?_ e2) (x1.fs.trans x2.fs)⟩
    cases ev2 with
    | d d => exact r2
    | fr d =>
      obtain ⟨a, e, o, q1, q2, q3, q4⟩ := r2
      refine ⟨a, e, o, q1, q2, q3, fun ⟨k, y, h1, h2⟩ => ?_⟩
      rcases get_set_cases h1 with ⟨z, w'⟩ | ⟨z, q⟩
      · subst z
        have hv : v = V.ref a := by
          have hl : i < σ.length := by
            rcases Nat.lt_or_ge i σ.length with z | z
            · exact z
            · rw [List.getElem?_eq_none (by rw [List.length_set]; exact z)] at h2; cases h2
          rw [List.getElem?_set_self hl] at h2
          cases h2
          rfl
        cases ev1 with
        | d d => cases e1; cases w'
        | fr d1 =>
          obtain ⟨a1, e3, o1, _⟩ := r1
          rw [hv] at e3
          cases e3
          obtain ⟨oo, ho⟩ := o1.some
          have := f2 a e
          rw [ho] at this
          cases this
        | bo _ => cases e1
        | src _ => cases e1; cases w'
        | scr _ => cases e1; cases w'
      · rw [get_set_ne z] at h2
        exact q4 ⟨k, y, q, h2⟩
    | bo _ => cases e2
    | src b => exact r2
    | scr ns => exact r2
  · exact w.elim
/-! all that is owned is lent as data for a while -/
def fz : Slot → Slot
  | .own x => .d x
  | s => s
def noTs : Slot → Bool
  | .own x => !isT x
  | _ => true
def noTE (e : Env') : Bool := e.all noTs
def frzE (e : Env') : Env' := e.map fz
def frzK : Nat → Env' → Env'
  | 0, e => e
  | k + 1, e => match (frzK k e)[k]? with
    | some (.own x) => (frzK k e).set k (.d x)
    | _ => frzK k e
theorem frzK_len (e : Env') : ∀ k, (frzK k e).length = e.length
  | 0 => rfl
  | k + 1 => by
    unfold frzK
    split
    · rw [List.length_set, frzK_len e k]
    · exact frzK_len e k
theorem frzK_get (e : Env') : ∀ k j, (frzK k e)[j]? = if j < k then e[j]?.map fz else e[j]?
  | 0, j => by simp [frzK]
  | k + 1, j => by
    have ih := frzK_get e k
    have hk := ih k
    rw [if_neg (Nat.lt_irrefl k)] at hk
    unfold frzK
    by_cases hj : j = k
    · subst hj
      rw [if_pos (Nat.lt_succ_self j)]
      split
      · rename_i x q
        rw [hk] at q
        have hl : j < (frzK j e).length := by
          rw [frzK_len]
          rcases Nat.lt_or_ge j e.length with z | z
          · exact z
          · rw [List.getElem?_eq_none z] at q; cases q
        rw [List.getElem?_set_self hl, q]
        rfl
      · rename_i q
        rw [hk] at q ⊢
        cases r : e[j]? with
        | none => rfl
        | some s => cases s with
          | own x => exact absurd r (q x)
          | _ => rfl
    · have h2 : (if j < k + 1 then e[j]?.map fz else e[j]?) = if j < k then e[j]?.map fz else e[j]? := by
        by_cases h : j < k
        · rw [if_pos h, if_pos (by omega)]
        · rw [if_neg h, if_neg (by omega)]
      rw [h2, ← ih j]
      split
      · rw [List.getElem?_set_ne (fun z => hj z.symm)]
      · rfl
theorem frzK_all (e : Env') : frzK e.length e = frzE e := by
  refine List.ext_getElem? fun j => ?_
  rw [frzK_get, frzE, List.getElem?_map]
  by_cases h : j < e.length
  · rw [if_pos h]
  · rw [if_neg h, List.getElem?_eq_none (by omega)]; rfl
theorem frzE_own {σ : L2.St} {e : Env'} {a : Addr} (h : OwnAt σ (frzE e) a) : False := by
  obtain ⟨i, x, h, _⟩ := h
  rw [frzE, List.getElem?_map] at h
  cases q : e[i]? with
  | none => rw [q] at h; cases h
  | some s => rw [q] at h; cases s <;> cases h
section
variable {σ : L2.St} {F H : Hp} {l : Loc} {env : Env'} {g : G}
theorem Rel.frzAll (R : Rel C σ F H l env g) (nt : noTE env = true) : ∃ F', Same F F' ∧ Rel C σ F' H l (frzE env) g ∧ ∀ a, F' a ≠ none → F a ≠ none ∨ OwnAt σ env a := by
  have main : ∀ k, ∃ F', Same F F' ∧ Rel C σ F' H l (frzK k env) g ∧ ∀ a, F' a ≠ none → F a ≠ none ∨ OwnAt σ env a := by
    intro k
    induction k with
    | zero => exact ⟨F, .refl _, R, fun _ h => .inl h⟩
    | succ k ih =>
      obtain ⟨F', s, R', h⟩ := ih
      unfold frzK
      split
      · rename_i x q
        have q0 := frzK_get env k k
        rw [if_neg (Nat.lt_irrefl k)] at q0
        rw [q] at q0
        have nt' : isT x = false := by
          have := List.all_eq_true.mp nt _ (List.mem_of_getElem? q0.symm)
          simpa [noTs] using this
        obtain ⟨a, u, h1, h2, h3, h4, h5, _⟩ := R'.leak q nt'
        refine ⟨_, s.trans (Same.upd h3), h5, fun b hb => ?_⟩
        by_cases z : b = a
        · subst z
          obtain ⟨i, y, e, e2⟩ := h4
          rw [frzK_get] at e
          split at e
          · cases r : env[i]? with
            | none => rw [r] at e; cases e
            | some s => rw [r] at e; cases s <;> cases e
          · exact .inr ⟨i, y, e, e2⟩
        · rw [upd_ne z] at hb; exact h b hb
      · exact ⟨F', s, R', h⟩
  have := main env.length
  rw [frzK_all] at this
  exact this
end
mutual
def noLst : PyData → Bool
  | .list _ => false
  | .dict _ => false
  | .tuple ds => noLsts ds
  | _ => true
def noLsts : List PyData → Bool
  | [] => true
  | d :: ds => noLst d && noLsts ds
end
def mThaw (m : M EV) : M EV := fun env g => if noTE env = true then (match m (frzE env) g with
  | .ok (.d x) _ g' => if noLst x then .ok (.d x) env g' else .bad
  | _ => .bad) else .bad
theorem SrcRep.less {F F' H : Hp} {l : Loc} {g : G} (r : SrcRep F H l g) (h : ∀ a, F a = none → F' a = none) : SrcRep F' H l g := by
  cases l with
  | none => cases g <;> exact r
  | some p =>
    cases g with
    | none => exact r
    | some s => obtain ⟨h1, h2, h3, h4, h5⟩ := r; exact ⟨h1, h2, h3, h _ h4, h _ h5⟩
section
variable {K : PySem.W.Frag} {F1 F2 : Hp} (h : ∀ a o, F1 a = some o → (∀ vs, o = .tup vs → F2 a = some o) ∧ ∀ q vs, o = .frz q (.tup vs) → F2 a = some o)
include h
mutual
theorem rep_noLst : ∀ (x : PyData) (v : V), noLst x = true → Rep K F1 v x → Rep K F2 v x
  | .none, _, _, r => by simpa only [Rep] using r
  | .bool b, _, _, r => by simpa only [Rep] using r
  | .int i, _, _, r => by simpa only [Rep] using r
  | .str z, _, _, r => by simpa only [Rep] using r
  | .list ds, _, n, _ => by simp [noLst] at n
  | .dict ds, _, n, _ => by simp [noLst] at n
  | .tuple ds, v, n, r => by
    obtain ⟨a, vs, e, q, t⟩ := rep_tup.mp r
    exact rep_tup.mpr ⟨a, vs, e, (h _ _ q).1 _ rfl, rep_noLsts ds vs (by simpa [noLst] using n) t⟩
theorem rep_noLsts : ∀ (ds : List PyData) (vs : List V), noLsts ds = true → RepL K F1 vs ds → RepL K F2 vs ds
  | [], _, _, r => by simpa only [RepL] using r
  | d :: ds, vs, n, r => by
    obtain ⟨v, rr, e, q, t⟩ := repL_cons.mp r
    have n : (noLst d && noLsts ds) = true := by simpa only [noLsts] using n
    rw [Bool.and_eq_true] at n
    exact repL_cons.mpr ⟨v, rr, e, rep_noLst d v n.1 q, rep_noLsts ds rr n.2 t⟩
end
end
open Classical in
theorem de_thaw {m : M EV} (h : DE X C e m) : DE X C e (mThaw m) := by
  refine ⟨fun hK => ?_⟩
  obtain ⟨t, ht, s⟩ := h.run hK
  refine ⟨t, ht, fun σ F H l env g Q R w => ?_⟩
  unfold mThaw at w
  split at w
  rotate_left
  · exact w.elim
  rename_i nt
  obtain ⟨F', sF, R', gr⟩ := R.frzAll nt
  refine s σ F' H l (frzE env) g Q R' ?_
  cases q : m (frzE env) g with
  | bad => rw [q] at w; exact w.elim
  | exc _ _ _ _ => rw [q] at w; exact w.elim
  | ok ev e1 g1 =>
    rw [q] at w
    cases ev with
    | d x =>
      dsimp only at w
      by_cases hn : noLst x = true
      · rw [if_pos hn] at w
        show KE C σ F' H l (frzE env) Q (.d x) e1 g1
        intro v F1 H1 l1 R1 x1 r1 f1
        let F2 : Hp := fun a => if OwnAt σ env a then none else F1 a
        have own_H : ∀ a, OwnAt σ env a → ∃ o, H a = some o ∧ H1 a = some o ∧ (∀ vs, o ≠ .tup vs) ∧ (∀ q vs, o ≠ .frz q (.tup vs)) := fun a ha => by
          obtain ⟨i, y, h1, h2⟩ := ha
          obtain ⟨b, h3, h4, h5, h6, h7⟩ := R.own i y h1
          rw [h2] at h3
          cases h3
          obtain ⟨o, ho⟩ := h4.some
          refine ⟨o, ho, x1.hk a o ho (fun z => frzE_own z) h7, fun vs z => ?_, fun q vs z => ?_⟩
          · subst z
            exact h4.notTup ⟨_, ho⟩
          · subst z
            cases y with
            | list ds => obtain ⟨_, z, _⟩ := h4; rw [ho] at z; cases z
            | dict kvs =>
              rcases h4 with ⟨_, z, _⟩ | ⟨_, _, _, z, _⟩
              · rw [ho] at z; cases z
              · rw [ho] at z; cases z
            | _ => exact h4.elim
        have F2n : ∀ a, OwnAt σ env a → F2 a = none := fun a ha => if_pos ha
        have F2s : ∀ a, ¬ OwnAt σ env a → F2 a = F1 a := fun a ha => if_neg ha
        have S2 : Same F F2 := fun a o ho => by
          have na : ¬ OwnAt σ env a := fun z => by have := (R.ownF z).1; rw [ho] at this; cases this
          rw [F2s a na]
          exact x1.fs _ _ (sF _ _ ho)
        have F21 : ∀ a o, F2 a = some o → F1 a = some o := fun a o ho => by
          by_cases z : OwnAt σ env a
          · rw [F2n a z] at ho; cases ho
          · rw [F2s a z] at ho; exact ho
        have F21n : ∀ a, F2 a ≠ none → F1 a ≠ none := fun a ha z => by
          by_cases y : OwnAt σ env a
          · exact ha (F2n a y)
          · rw [F2s a y] at ha; exact ha z
        have RR : Rel C σ F2 H1 l1 env g1 := {
          sub := fun a o ho => R1.sub _ _ (F21 a o ho)
          len := R.len
          dat := fun i y hy => let ⟨v, h1, h2⟩ := R.dat i y hy; ⟨v, h1, Rep.up S2 _ _ h2⟩
          own := fun i y hy => by
            obtain ⟨a, h1, h2, h3, h4, h5⟩ := R.own i y hy
            have oa : OwnAt σ env a := ⟨i, y, hy, h1⟩
            refine ⟨a, h1, h2.up S2 fun o ho => x1.hk a o ho (fun z => frzE_own z) h5, F2n a oa, h4, fun z => ?_⟩
            rcases x1.ln a z with z | z
            · exact h5 z
            · obtain ⟨o, ho⟩ := h2.some
              rw [ho] at z; cases z
          inj := R.inj
          iscr := fun i ns hy => let ⟨a, h1, h2⟩ := R.iscr i ns hy; ⟨a, h1, S2.seq h2⟩
          isrc := fun i b hy => let ⟨d, c, h1, h2⟩ := R.isrc i b hy; ⟨d, c, x1.ls _ h1, h2⟩
          src := R1.src.less fun a ha => Classical.byContradiction fun z => F21n a z ha
          old := R1.old
          oldd := R1.oldd
          f0 := R.f0.trans S2
          fo := fun a ha => R1.fo a (F21n a ha)
          lo := R1.lo
          l0 := R1.l0 }
        have XX : Ext σ F H l env F2 H1 l1 env := {
          fs := S2
          hd := x1.hd
          hk := fun a o ho _ ns => x1.hk a o ho (fun z => frzE_own z) ns
          gr := fun a ha => by
            rcases x1.gr a (F21n a ha) with z | z | z | z
            · exact (gr a z).elim .inl fun z => .inr (.inr (.inl z))
            · exact .inr (.inl z)
            · exact (frzE_own z).elim
            · exact .inr (.inr (.inr z))
          ow := fun a ha => ha
          ls := x1.ls
          ln := x1.ln }
        refine w v F2 H1 l1 RR XX ?_ trivial
        refine rep_noLst (F1 := F1) (fun a o ho => ⟨fun vs hv => ?_, fun q vs hv => ?_⟩) x v hn r1
        · rw [F2s a fun z => ?_]
          · exact ho
          · obtain ⟨o', _, h2, h3, _⟩ := own_H a z
            have := R1.sub _ _ ho
            rw [h2] at this
            cases this
            exact h3 vs hv
        · rw [F2s a fun z => ?_]
          · exact ho
          · obtain ⟨o', _, h2, _, h3⟩ := own_H a z
            have := R1.sub _ _ ho
            rw [h2] at this
            cases this
            exact h3 q vs hv
      · rw [if_neg hn] at w; exact w.elim
    | _ => exact w.elim
end
end DL
/-! functional mirrors: plain functions over data, with a drawn source; no slots -/
namespace DL
open PySem L2
def S (α : Type) := G → Option (α × G)
namespace S
def pure {α : Type} (a : α) : S α := fun g => some (a, g)
def bind {α β : Type} (m : S α) (f : α → S β) : S β := fun g => match m g with
  | some (a, g') => f a g'
  | none => none
def fail {α : Type} : S α := fun _ => none
def opt {α : Type} : Option α → S α
  | some a => pure a
  | none => fail
end S
instance : Monad S where
  pure := S.pure
  bind := S.bind
theorem S.pure_def {α : Type} (a : α) (g : G) : (Pure.pure a : S α) g = some (a, g) := rfl
theorem S.bind_def {α β : Type} (m : S α) (f : α → S β) (g : G) : (m >>= f) g = match m g with
  | some (a, g') => f a g'
  | none => none := rfl
instance : LawfulMonad S := LawfulMonad.mk' S
  (id_map := fun m => by
    funext g
    show (match m g with | some (a, g') => some (a, g') | none => none) = m g
    cases m g with
    | none => rfl
    | some p => rfl)
  (pure_bind := fun a f => rfl)
  (bind_assoc := fun m f h => by
    funext g
    show (match (match m g with | some (a, g') => f a g' | none => none) with | some (a, g') => h a g' | none => none) = match m g with | some (a, g') => (match f a g' with | some (a, g') => h a g' | none => none) | none => none
    cases m g with
    | none => rfl
    | some p => rfl)
theorem S.inv {α β : Type} {m : S α} {f : α → S β} {g g' : G} {b : β} (h : (m >>= f) g = some (b, g')) : ∃ a g1, m g = some (a, g1) ∧ f a g1 = some (b, g') := by
  rw [S.bind_def] at h
  cases q : m g with
  | none => rw [q] at h; cases h
  | some p => rw [q] at h; exact ⟨p.1, p.2, rfl, h⟩
theorem S.inv0 {α : Type} {a b : α} {g g' : G} (h : (Pure.pure a : S α) g = some (b, g')) : a = b ∧ g = g' := by
  rw [S.pure_def] at h
  cases h
  exact ⟨rfl, rfl⟩
theorem S.invO {α : Type} {o : Option α} {b : α} {g g' : G} (h : S.opt o g = some (b, g')) : o = some b ∧ g = g' := by
  cases o with
  | none => cases h
  | some a => exact let ⟨e, q⟩ := S.inv0 h; ⟨by rw [e], q⟩
theorem S.invF {α : Type} {b : α} {g g' : G} (h : (S.fail : S α) g = some (b, g')) : False := by cases h
/-! what an expression's value is -/
def isObj : PyData → Bool
  | .list _ => true
  | .dict kvs => !isT (.dict kvs)
  | _ => false
theorem isObj_noT {x : PyData} (h : isObj x = true) : isT x = false := by
  cases x <;> first | rfl | (simpa [isObj] using h)
def VA (e : Env') (ev : EV) (x : PyData) : Prop := look e ev = some x ∧ (isObj x = false → ev = .d x)
def HA (_ : Env') (ev : EV) (x : PyData) : Prop := ev = .d x ∨ (ev = .fr x ∧ isObj x = true)
def HD (_ : Env') (ev : EV) (x : PyData) : Prop := ev = .d x
def FR (_ : Env') (ev : EV) (x : PyData) : Prop := (isObj x = true → ev = .fr x) ∧ (isObj x = false → ev = .d x)
def EQ {α : Type} (_ : Env') (a b : α) : Prop := a = b
theorem HD.ha {e : Env'} {ev : EV} {x : PyData} (h : HD e ev x) : HA e ev x := .inl h
theorem FR.ha {e : Env'} {ev : EV} {x : PyData} (h : FR e ev x) : HA e ev x := by
  cases q : isObj x with
  | true => exact .inr ⟨h.1 q, q⟩
  | false => exact .inl (h.2 q)
theorem FR.of {e : Env'} {x : PyData} (h : isObj x = true) : FR e (.fr x) x := ⟨fun _ => rfl, fun z => (by rw [h] at z; cases z)⟩
theorem FR.od {e : Env'} {x : PyData} (h : isObj x = false) : FR e (.d x) x := ⟨fun z => (by rw [h] at z; cases z), fun _ => rfl⟩
theorem HA.va {e : Env'} {ev : EV} {x : PyData} (h : HA e ev x) : VA e ev x := by
  rcases h with rfl | ⟨rfl, h⟩
  · exact ⟨rfl, fun _ => rfl⟩
  · exact ⟨by simp only [look, isObj_noT h, Bool.false_eq_true, if_false], fun z => by rw [h] at z; cases z⟩
/-- from one env to a later one: what was looked at stays -/
def Keep (e e' : Env') : Prop := ∀ j x, look e (.bo j) = some x → look e' (.bo j) = some x
theorem Keep.refl {e : Env'} : Keep e e := fun _ _ h => h
theorem Keep.trans {a b c : Env'} (h : Keep a b) (k : Keep b c) : Keep a c := fun _ _ x => k _ _ (h _ _ x)
theorem Keep.va {e e' : Env'} (k : Keep e e') {ev : EV} {x : PyData} (h : VA e ev x) : VA e' ev x := by
  refine ⟨?_, h.2⟩
  cases ev with
  | bo j => exact k j x h.1
  | _ => exact h.1
/-! slots -/
/-- the items of a dict with tuples as keys -/
def tdIn : PyData → Option (List (PyData × PyData))
  | .dict ((.none, .none) :: r) => some r
  | _ => none
inductive SS where
  | d (x : PyData)
  | ow (x : PyData)
  | va (x : PyData)
  | src (b : Bool)
  | scr (ns : List Int)
  | jk
  | any
  | dt (x : PyData)
def SS.ok : SS → Slot → Prop
  | .d x, s => s = .d x
  | .ow x, s => (isObj x = true → s = .own x) ∧ (isObj x = false → s = .d x)
  | .va x, s => s = .d x ∨ (s = .own x ∧ isObj x = true)
  | .src b, s => s = .src b
  | .scr ns, s => s = .scr ns
  | .jk, s => ∀ x, s ≠ .own x
  | .any, s => ∀ x, s = .own x → isT x = false
  | .dt x, s => s = .own x ∧ (tdIn x).isSome = true
def SS.noT : SS → Bool
  | .dt _ => false
  | _ => true
def Fits : List SS → Env' → Prop
  | [], [] => True
  | t :: ts, s :: ss => t.ok s ∧ Fits ts ss
  | _, _ => False
theorem Fits.len : ∀ {t : List SS} {e : Env'}, Fits t e → e.length = t.length
  | [], [], _ => rfl
  | t :: ts, s :: ss, h => by simp [Fits.len h.2]
  | [], _ :: _, h => h.elim
  | _ :: _, [], h => h.elim
theorem Fits.get : ∀ {t : List SS} {e : Env'} {i : Nat} {s : SS}, Fits t e → t[i]? = some s → ∃ x, e[i]? = some x ∧ s.ok x
  | [], [], i, s, _, h => by simp at h
  | t :: ts, x :: xs, 0, s, f, h => by simp at h; subst h; exact ⟨x, rfl, f.1⟩
  | t :: ts, x :: xs, i + 1, s, f, h => by simpa using Fits.get (i := i) f.2 (by simpa using h)
  | [], _ :: _, _, _, f, _ => f.elim
  | _ :: _, [], _, _, f, _ => f.elim
theorem Fits.set : ∀ {t : List SS} {e : Env'} {s : SS} {x : Slot} (i : Nat), Fits t e → s.ok x → Fits (t.set i s) (e.set i x)
  | [], [], _, _, _, _, _ => trivial
  | t :: ts, y :: ys, s, x, 0, f, h => ⟨h, f.2⟩
  | t :: ts, y :: ys, s, x, i + 1, f, h => ⟨f.1, Fits.set i f.2 h⟩
  | [], _ :: _, _, _, _, f, _ => f.elim
  | _ :: _, [], _, _, _, f, _ => f.elim
theorem Fits.setL {t : List SS} {e : Env'} {s : SS} {x : Slot} {i : Nat} (f : Fits t e) (h : t[i]? = some s) (hx : e[i]? = some x) (k : ∀ y, s.ok y) : True := trivial
/-- a weaker pattern of slots -/
def SS.le (a b : SS) : Prop := ∀ s, a.ok s → b.ok s
def LE : List SS → List SS → Prop
  | [], [] => True
  | a :: as, b :: bs => a.le b ∧ LE as bs
  | _, _ => False
theorem LE.fits : ∀ {a b : List SS} {e : Env'}, LE a b → Fits a e → Fits b e
  | [], [], [], _, _ => trivial
  | a :: as, b :: bs, s :: ss, h, f => ⟨h.1 s f.1, LE.fits h.2 f.2⟩
  | [], [], _ :: _, _, f => f.elim
  | _ :: _, _, [], _, f => f.elim
  | [], _ :: _, _, h, _ => h.elim
  | _ :: _, [], _, h, _ => h.elim
theorem SS.lr {a : SS} : a.le a := fun _ h => h
theorem SS.la {a : SS} (n : a.noT = true := by rfl) : a.le .any := fun s h x e => by
  subst e
  cases a with
  | d y => cases h
  | ow y =>
    cases q : isObj y with
    | true => have := h.1 q; cases this; exact isObj_noT q
    | false => have := h.2 q; cases this
  | va y =>
    rcases h with h | ⟨h, q⟩
    · cases h
    · cases h; exact isObj_noT q
  | src b => cases h
  | scr ns => cases h
  | jk => exact absurd rfl (h x)
  | any => exact h x rfl
  | dt kvs => cases n
theorem noTE_of : ∀ {t : List SS} {e : Env'}, Fits t e → t.all SS.noT = true → noTE e = true
  | [], [], _, _ => rfl
  | t :: ts, s :: ss, f, h => by
    rw [List.all_cons, Bool.and_eq_true] at h
    unfold noTE
    rw [List.all_cons, Bool.and_eq_true]
    refine ⟨?_, noTE_of f.2 h.2⟩
    cases s with
    | own x =>
      have := SS.la (a := t) h.1 _ f.1 x rfl
      simp [noTs, this]
    | _ => rfl
  | [], _ :: _, f, _ => f.elim
  | _ :: _, [], f, _ => f.elim
theorem SS.ldv {x : PyData} : (SS.d x).le (.va x) := fun _ h => .inl h
theorem SS.lov {x : PyData} : (SS.ow x).le (.va x) := fun _ h => by
  cases q : isObj x with
  | true => exact .inr ⟨h.1 q, q⟩
  | false => exact .inl (h.2 q)
theorem SS.ldj {x : PyData} : (SS.d x).le .jk := fun s h y => by rw [show s = .d x from h]; nofun
theorem SS.lsj {b : Bool} : (SS.src b).le .jk := fun s h y => by rw [show s = .src b from h]; nofun
theorem SS.lcj {ns : List Int} : (SS.scr ns).le .jk := fun s h y => by rw [show s = .scr ns from h]; nofun
/-! ### the judgement: the mirror does what the function does -/
def T {α β : Type} (rel : Env' → α → β → Prop) (t : List SS) (m : M α) (s : S β) (t' : List SS) : Prop :=
  ∀ e g b g', Fits t e → s g = some (b, g') → ∃ a e', m e g = .ok a e' g' ∧ Fits t' e' ∧ Keep e e' ∧ rel e' a b
section
variable {t t1 t2 t3 t4 : List SS}
theorem T.mono {α β : Type} {r r' : Env' → α → β → Prop} {m : M α} {s : S β} (h : T r t m s t1) (k : ∀ e a b, r e a b → r' e a b) : T r' t m s t1 := fun e g b g' f q =>
  let ⟨a, e', h1, h2, h3, h4⟩ := h e g b g' f q
  ⟨a, e', h1, h2, h3, k _ _ _ h4⟩
theorem T.sub {α β : Type} {r : Env' → α → β → Prop} {m : M α} {s : S β} (h : T r t m s t1) (k : LE t1 t2) : T r t m s t2 := fun e g b g' f q =>
  let ⟨a, e', h1, h2, h3, h4⟩ := h e g b g' f q
  ⟨a, e', h1, k.fits h2, h3, h4⟩
theorem tHD {m : M EV} {s : S PyData} (h : T HD t m s t1) : T HA t m s t1 := h.mono fun _ _ _ => HD.ha
theorem tFR {m : M EV} {s : S PyData} (h : T FR t m s t1) : T HA t m s t1 := h.mono fun _ _ _ => FR.ha
theorem tVA {m : M EV} {s : S PyData} (h : T HA t m s t1) : T VA t m s t1 := h.mono fun _ _ _ => HA.va
/-- the bind of two -/
theorem T.bind {α β α' β' : Type} {r : Env' → α → β → Prop} {r' : Env' → α' → β' → Prop} {m : M α} {s : S β} {f : α → M α'} {k : β → S β'} (h : T r t m s t1)
    (hk : ∀ e a b g b' g', Fits t1 e → r e a b → k b g = some (b', g') → ∃ a' e', f a e g = .ok a' e' g' ∧ Fits t2 e' ∧ Keep e e' ∧ r' e' a' b') : T r' t (m.bind f) (s >>= k) t2 := by
  intro e g b' g' hf q
  obtain ⟨b, g1, q1, q2⟩ := S.inv q
  obtain ⟨a, e1, h1, h2, h3, h4⟩ := h e g b g1 hf q1
  obtain ⟨a', e2, h5, h6, h7, h8⟩ := hk e1 a b g1 b' g' h2 h4 q2
  exact ⟨a', e2, by rw [bind_eq h1]; exact h5, h6, h3.trans h7, h8⟩
theorem T.bind' {α β α' β' : Type} {r : Env' → α → β → Prop} {r' : Env' → α' → β' → Prop} {m : M α} {s : S β} {f : α → M α'} {k : β → S β'} (h : T r t m s t1)
    (hk : ∀ e a b g b' g', Fits t1 e → r e a b → k b g = some (b', g') → ∃ a', f a e g = .ok a' e g' ∧ r' e a' b') : T r' t (m.bind f) (s >>= k) t1 :=
  T.bind h fun e a b g b' g' hf hr q => let ⟨a', h1, h2⟩ := hk e a b g b' g' hf hr q; ⟨a', e, h1, hf, .refl, h2⟩
/-! names, constants -/
theorem te_k {x : PyData} : T HD t (mK x) (pure x) t := fun e g b g' f q => by
  obtain ⟨rfl, rfl⟩ := S.inv0 q
  exact ⟨_, e, rfl, f, .refl, rfl⟩
theorem te_p {x : PyData} (h : isObj x = true := by rfl) : T FR t (M.pure (.fr x)) (pure x) t := fun e g b g' f q => by
  obtain ⟨rfl, rfl⟩ := S.inv0 q
  exact ⟨_, e, rfl, f, .refl, FR.of h⟩
theorem vd {i : Nat} {x : PyData} (h : t[i]? = some (.d x)) : T HD t (mVar i) (pure x) t := fun e g b g' f q => by
  obtain ⟨rfl, rfl⟩ := S.inv0 q
  obtain ⟨s, h1, h2⟩ := f.get h
  cases (show s = .d x from h2)
  exact ⟨.d x, e, by simp only [mVar, h1], f, .refl, rfl⟩
theorem vdB {i : Nat} {x : PyData} (h : t[i]? = some (.d x)) : T HD t (mVarB i) (pure x) t := fun e g b g' f q => by
  obtain ⟨rfl, rfl⟩ := S.inv0 q
  obtain ⟨s, h1, h2⟩ := f.get h
  cases (show s = .d x from h2)
  exact ⟨.d x, e, by simp only [mVarB, h1], f, .refl, rfl⟩
theorem look_set {e : Env'} {i : Nat} {x : PyData} (h : e[i]? = some (.own x)) : Keep e (e.set i (.d x)) := by
  intro j y h1
  by_cases hj : i = j
  · subst hj
    have hl : i < e.length := by
      rcases Nat.lt_or_ge i e.length with z | z
      · exact z
      · rw [List.getElem?_eq_none z] at h; cases h
    simp only [look, h] at h1
    simp only [look, List.getElem?_set_self hl]
    split at h1
    · cases h1
    · exact h1
  · simp only [look, get_set_ne hj] at h1 ⊢
    exact h1
theorem vv {i : Nat} {x : PyData} (h : t[i]? = some (.va x)) : T HD t (mVar i) (pure x) (t.set i (.d x)) := fun e g b g' f q => by
  obtain ⟨rfl, rfl⟩ := S.inv0 q
  obtain ⟨s, h1, h2⟩ := f.get h
  rcases h2 with h2 | ⟨h2, h3⟩
  · subst h2
    refine ⟨.d x, e, by simp only [mVar, h1], ?_, .refl, rfl⟩
    have hs : e.set i (.d x) = e := by
      refine List.ext_getElem? fun j => ?_
      by_cases hj : i = j
      · subst hj
        have hl : i < e.length := by
          rcases Nat.lt_or_ge i e.length with z | z
          · exact z
          · rw [List.getElem?_eq_none z] at h1; cases h1
        rw [List.getElem?_set_self hl, h1]
      · rw [get_set_ne hj]
    have := f.set (s := .d x) (x := .d x) i rfl
    rwa [hs] at this
  · subst h2
    exact ⟨.d x, _, by simp only [mVar, h1, isObj_noT h3, Bool.false_eq_true, if_false], f.set i rfl, look_set h1, rfl⟩
theorem LE1 {i : Nat} {x : PyData} (h : t[i]? = some (.ow x)) {e : Env'} (f : Fits t e) : ∃ s, e[i]? = some s ∧ (s = .d x ∨ (s = .own x ∧ isObj x = true)) := by
  obtain ⟨s, h1, h2⟩ := f.get h
  exact ⟨s, h1, SS.lov s h2⟩
theorem vo {i : Nat} {x : PyData} (h : t[i]? = some (.ow x)) : T HD t (mVar i) (pure x) (t.set i (.d x)) := fun e g b g' f q => by
  obtain ⟨rfl, rfl⟩ := S.inv0 q
  obtain ⟨s, h1, h2⟩ := LE1 h f
  rcases h2 with h2 | ⟨h2, h3⟩
  · subst h2
    refine ⟨.d x, e, by simp only [mVar, h1], ?_, .refl, rfl⟩
    have hs : e.set i (.d x) = e := by
      refine List.ext_getElem? fun j => ?_
      by_cases hj : i = j
      · subst hj
        have hl : i < e.length := by
          rcases Nat.lt_or_ge i e.length with z | z
          · exact z
          · rw [List.getElem?_eq_none z] at h1; cases h1
        rw [List.getElem?_set_self hl, h1]
      · rw [get_set_ne hj]
    have := f.set (s := .d x) (x := .d x) i rfl
    rwa [hs] at this
  · subst h2
    exact ⟨.d x, _, by simp only [mVar, h1, isObj_noT h3, Bool.false_eq_true, if_false], f.set i rfl, look_set h1, rfl⟩
theorem voB {i : Nat} {x : PyData} (h : t[i]? = some (.ow x)) : T VA t (mVarB i) (pure x) t := fun e g b g' f q => by
  obtain ⟨rfl, rfl⟩ := S.inv0 q
  obtain ⟨s, h1, h2⟩ := LE1 h f
  rcases h2 with rfl | ⟨rfl, h3⟩
  · exact ⟨.d x, e, by simp only [mVarB, h1], f, .refl, rfl, fun _ => rfl⟩
  · exact ⟨.bo i, e, by simp only [mVarB, h1], f, .refl, by simp only [look, h1, isObj_noT h3, Bool.false_eq_true, if_false], fun z => by rw [h3] at z; cases z⟩
theorem vvB {i : Nat} {x : PyData} (h : t[i]? = some (.va x)) : T VA t (mVarB i) (pure x) t := fun e g b g' f q => by
  obtain ⟨rfl, rfl⟩ := S.inv0 q
  obtain ⟨s, h1, h2⟩ := f.get h
  rcases h2 with rfl | ⟨rfl, h3⟩
  · exact ⟨.d x, e, by simp only [mVarB, h1], f, .refl, rfl, fun _ => rfl⟩
  · exact ⟨.bo i, e, by simp only [mVarB, h1], f, .refl, by simp only [look, h1, isObj_noT h3, Bool.false_eq_true, if_false], fun z => by rw [h3] at z; cases z⟩
/-! operations -/
def RV.val : RV → PyData
  | .d x => x
  | .fr x => x
def RV.wf : RV → Prop
  | .d _ => True
  | .fr x => isObj x = true
theorem RV.ha {r : RV} (h : r.wf) {e : Env'} : HA e r.ev r.val := by
  cases r with
  | d x => exact .inl rfl
  | fr x => exact .inr ⟨rfl, h⟩
def sOp (o : Option RV) : S PyData := S.opt (o.map RV.val)
theorem sOp_inv {o : Option RV} {g g' : G} {x : PyData} (h : sOp o g = some (x, g')) : ∃ r, o = some r ∧ r.val = x ∧ g = g' := by
  obtain ⟨h1, h2⟩ := S.invO h
  cases o with
  | none => cases h1
  | some r => exact ⟨r, rfl, Option.some.inj h1, h2⟩
class Wf2 (g : PyData → PyData → Option RV) : Prop where
  wf : ∀ x y r, g x y = some r → r.wf
class Wf1 (g : PyData → Option RV) : Prop where
  wf : ∀ x r, g x = some r → r.wf
class WfL (g : List PyData → Option RV) : Prop where
  wf : ∀ x r, g x = some r → r.wf
class New2 (g : PyData → PyData → Option RV) : Prop where
  nw : ∀ x y r, g x y = some r → (isObj r.val = true → r = .fr r.val) ∧ (isObj r.val = false → r = .d r.val)
class New1 (g : PyData → Option RV) : Prop where
  nw : ∀ x r, g x = some r → (isObj r.val = true → r = .fr r.val) ∧ (isObj r.val = false → r = .d r.val)
class NewL (g : List PyData → Option RV) : Prop where
  nw : ∀ x r, g x = some r → (isObj r.val = true → r = .fr r.val) ∧ (isObj r.val = false → r = .d r.val)
theorem RV.fr_of {r : RV} (h : (isObj r.val = true → r = .fr r.val) ∧ (isObj r.val = false → r = .d r.val)) {e : Env'} : FR e r.ev r.val :=
  ⟨fun z => by have := h.1 z; rw [this]; rfl, fun z => by have := h.2 z; rw [this]; rfl⟩
def sBin (gop : PyData → PyData → Option RV) (a b : S PyData) : S PyData := a >>= fun x => b >>= fun y => sOp (gop x y)
def sUn (gop : PyData → Option RV) (a : S PyData) : S PyData := a >>= fun x => sOp (gop x)
theorem te_bin {gop : PyData → PyData → Option RV} [w : Wf2 gop] {ma mb : M EV} {a b : S PyData} (ha : T VA t ma a t1) (hb : T VA t1 mb b t2) : T HA t (mBin gop ma mb) (sBin gop a b) t2 := by
  intro e g z g' f q
  obtain ⟨x, g1, q1, q⟩ := S.inv q
  obtain ⟨y, g2, q2, q⟩ := S.inv q
  obtain ⟨r, q3, rfl, rfl⟩ := sOp_inv q
  obtain ⟨u, e1, h1, f1, k1, r1⟩ := ha e g x g1 f q1
  obtain ⟨v, e2, h2, f2, k2, r2⟩ := hb e1 g1 y g2 f1 q2
  refine ⟨r.ev, e2, ?_, f2, k1.trans k2, r.ha (w.wf _ _ _ q3)⟩
  unfold mBin
  rw [bind_eq h1, bind_eq h2]
  simp only [(k2.va r1).1, r2.1, q3, Option.map_some, M.opt, M.pure]
theorem te_un {gop : PyData → Option RV} [w : Wf1 gop] {ma : M EV} {a : S PyData} (ha : T VA t ma a t1) : T HA t (mUn gop ma) (sUn gop a) t1 := by
  refine T.bind' ha fun e u x g z g' f r q => ?_
  obtain ⟨r', q3, rfl, rfl⟩ := sOp_inv q
  refine ⟨r'.ev, ?_, r'.ha (w.wf _ _ q3)⟩
  simp only [r.1, q3, Option.map_some, M.opt, M.pure]
theorem te_binN {gop : PyData → PyData → Option RV} [w : New2 gop] {ma mb : M EV} {a b : S PyData} (ha : T VA t ma a t1) (hb : T VA t1 mb b t2) : T FR t (mBin gop ma mb) (sBin gop a b) t2 := by
  intro e g z g' f q
  obtain ⟨x, g1, q1, q⟩ := S.inv q
  obtain ⟨y, g2, q2, q⟩ := S.inv q
  obtain ⟨r, q3, rfl, rfl⟩ := sOp_inv q
  obtain ⟨u, e1, h1, f1, k1, r1⟩ := ha e g x g1 f q1
  obtain ⟨v, e2, h2, f2, k2, r2⟩ := hb e1 g1 y g2 f1 q2
  refine ⟨r.ev, e2, ?_, f2, k1.trans k2, RV.fr_of (w.nw _ _ _ q3)⟩
  unfold mBin
  rw [bind_eq h1, bind_eq h2]
  simp only [(k2.va r1).1, r2.1, q3, Option.map_some, M.opt, M.pure]
theorem te_unN {gop : PyData → Option RV} [w : New1 gop] {ma : M EV} {a : S PyData} (ha : T VA t ma a t1) : T FR t (mUn gop ma) (sUn gop a) t1 := by
  refine T.bind' ha fun e u x g z g' f r q => ?_
  obtain ⟨r', q3, rfl, rfl⟩ := sOp_inv q
  refine ⟨r'.ev, ?_, RV.fr_of (w.nw _ _ q3)⟩
  simp only [r.1, q3, Option.map_some, M.opt, M.pure]
/-! tests -/
def boolS : PyData → S Bool
  | .bool b => pure b
  | _ => S.fail
theorem boolS_inv {x : PyData} {g g' : G} {b : Bool} (h : boolS x g = some (b, g')) : x = .bool b ∧ g = g' := by
  cases x <;> first | (cases h; done) | skip
  exact let ⟨a, b⟩ := S.inv0 h; ⟨by rw [a], b⟩
def sBool (a : S PyData) : S Bool := a >>= boolS
def sAndT (a b : S Bool) : S Bool := a >>= fun x => if x then b else pure false
def sOrT (a b : S Bool) : S Bool := a >>= fun x => if x then pure true else b
def sNotT (a : S Bool) : S Bool := a >>= fun x => pure (!x)
def sAndV (a b : S PyData) : S PyData := sBool a >>= fun x => if x then b else pure (.bool false)
def sOrV (a b : S PyData) : S PyData := sBool a >>= fun x => if x then pure (.bool true) else b
def sNotV (a : S PyData) : S PyData := sBool a >>= fun x => pure (.bool (!x))
def sIf {α : Type} (c : S Bool) (a b : S α) : S α := c >>= fun x => if x then a else b
theorem tt_bool {m : M EV} {s : S PyData} (h : T VA t m s t1) : T EQ t (m.bind mBool) (sBool s) t1 := by
  refine T.bind' h fun e u x g z g' f r q => ?_
  obtain ⟨rfl, rfl⟩ := boolS_inv q
  cases r.2 rfl
  exact ⟨z, rfl, rfl⟩
theorem ite_true_eq {α : Sort _} {a b : α} : (if (true = true) then a else b) = a := rfl
theorem ite_false_eq {α : Sort _} {a b : α} : (if (false = true) then a else b) = b := rfl
theorem tt_and {ma mb : M Bool} {a b : S Bool} (ha : T EQ t ma a t1) (hb : T EQ t1 mb b t1) : T EQ t (mAndT ma mb) (sAndT a b) t1 := by
  refine T.bind ha fun e u x g z g' f r q => ?_
  cases r
  cases u with
  | true => exact hb e g z g' f q
  | false => exact let ⟨h1, h2⟩ := S.inv0 q; ⟨false, e, by rw [← h2]; rfl, f, .refl, h1⟩
theorem tt_or {ma mb : M Bool} {a b : S Bool} (ha : T EQ t ma a t1) (hb : T EQ t1 mb b t1) : T EQ t (mOrT ma mb) (sOrT a b) t1 := by
  refine T.bind ha fun e u x g z g' f r q => ?_
  cases r
  cases u with
  | false => exact hb e g z g' f q
  | true => exact let ⟨h1, h2⟩ := S.inv0 q; ⟨true, e, by rw [← h2]; rfl, f, .refl, h1⟩
theorem tt_not {ma : M Bool} {a : S Bool} (ha : T EQ t ma a t1) : T EQ t (mNotT ma) (sNotT a) t1 := by
  refine T.bind' ha fun e u x g z g' f r q => ?_
  cases r
  exact let ⟨h1, h2⟩ := S.inv0 q; ⟨!u, by rw [← h2]; rfl, h1⟩
theorem te_andV {ma mb : M EV} {a b : S PyData} (ha : T VA t ma a t1) (hb : T HA t1 mb b t1) : T HA t (mAndV ma mb) (sAndV a b) t1 := by
  intro e g z g' f q
  obtain ⟨x, g1, q1, q⟩ := S.inv q
  obtain ⟨x', g2, q1', q2⟩ := S.inv (m := a) (f := boolS) q1
  obtain ⟨rfl, rfl⟩ := boolS_inv q2
  obtain ⟨u, e1, h1, f1, k1, r1⟩ := ha e g _ _ f q1'
  cases r1.2 rfl
  cases x with
  | true =>
    obtain ⟨v, e2, h2, f2, k2, r2⟩ := hb e1 _ z g' f1 q
    exact ⟨v, e2, by unfold mAndV; rw [bind_eq h1]; exact h2, f2, k1.trans k2, r2⟩
  | false =>
    obtain ⟨rfl, rfl⟩ := S.inv0 q
    exact ⟨_, e1, by unfold mAndV; rw [bind_eq h1]; rfl, f1, k1, .inl rfl⟩
theorem te_orV {ma mb : M EV} {a b : S PyData} (ha : T VA t ma a t1) (hb : T HA t1 mb b t1) : T HA t (mOrV ma mb) (sOrV a b) t1 := by
  intro e g z g' f q
  obtain ⟨x, g1, q1, q⟩ := S.inv q
  obtain ⟨x', g2, q1', q2⟩ := S.inv (m := a) (f := boolS) q1
  obtain ⟨rfl, rfl⟩ := boolS_inv q2
  obtain ⟨u, e1, h1, f1, k1, r1⟩ := ha e g _ _ f q1'
  cases r1.2 rfl
  cases x with
  | false =>
    obtain ⟨v, e2, h2, f2, k2, r2⟩ := hb e1 _ z g' f1 q
    exact ⟨v, e2, by unfold mOrV; rw [bind_eq h1]; exact h2, f2, k1.trans k2, r2⟩
  | true =>
    obtain ⟨rfl, rfl⟩ := S.inv0 q
    exact ⟨_, e1, by unfold mOrV; rw [bind_eq h1]; rfl, f1, k1, .inl rfl⟩
theorem te_notV {ma : M EV} {a : S PyData} (ha : T VA t ma a t1) : T HD t (mNotV ma) (sNotV a) t1 := by
  intro e g z g' f q
  obtain ⟨x, g1, q1, q⟩ := S.inv q
  obtain ⟨x', g2, q1', q2⟩ := S.inv (m := a) (f := boolS) q1
  obtain ⟨rfl, rfl⟩ := boolS_inv q2
  obtain ⟨u, e1, h1, f1, k1, r1⟩ := ha e g _ _ f q1'
  cases r1.2 rfl
  obtain ⟨rfl, rfl⟩ := S.inv0 q
  exact ⟨_, e1, by unfold mNotV; rw [bind_eq h1]; rfl, f1, k1, rfl⟩
theorem te_if {r : Env' → EV → PyData → Prop} {mt : M Bool} {ma mb : M EV} {c : S Bool} {a b : S PyData} (hc : T EQ t mt c t1) (ha : T r t1 ma a t2) (hb : T r t1 mb b t2) : T r t (mIf mt ma mb) (sIf c a b) t2 := by
  refine T.bind hc fun e u x g z g' f hr q => ?_
  cases hr
  cases u with
  | true => exact ha e g z g' f q
  | false => exact hb e g z g' f q
/-! handed on, displays -/
theorem te_arg {m : M EV} {s : S PyData} (h : T HA t m s t1) : T HD t (mArg m) s t1 := by
  intro e g z g' f q
  obtain ⟨u, e1, h1, f1, k1, r1⟩ := h e g z g' f q
  refine ⟨.d z, e1, ?_, f1, k1, rfl⟩
  unfold mArg
  rw [bind_eq h1]
  rcases r1 with rfl | ⟨rfl, hz⟩
  · rfl
  · simp only [isObj_noT hz, Bool.false_eq_true, if_false]; rfl
theorem td_frz {m : M EV} {s : S PyData} (h : T HA t m s t1) : T EQ t (m.bind mFrz) s t1 := by
  intro e g z g' f q
  obtain ⟨u, e1, h1, f1, k1, r1⟩ := h e g z g' f q
  refine ⟨z, e1, ?_, f1, k1, rfl⟩
  rw [bind_eq h1]
  rcases r1 with rfl | ⟨rfl, hz⟩
  · rfl
  · simp only [mFrz, isObj_noT hz, Bool.false_eq_true, if_false]; rfl
def sNil : S (List PyData) := pure []
def sCons (a : S PyData) (r : S (List PyData)) : S (List PyData) := a >>= fun x => r >>= fun xs => pure (x :: xs)
def DS' (_ : Env') (evs : List EV) (ds : List PyData) : Prop := evs = ds.map .d
def VS (e : Env') : List EV → List PyData → Prop
  | [], [] => True
  | ev :: evs, x :: xs => VA e ev x ∧ VS e evs xs
  | _, _ => False
theorem VS.look : ∀ {e : Env'} {evs : List EV} {xs : List PyData}, VS e evs xs → lookAll e evs = some xs
  | _, [], [], _ => rfl
  | e, ev :: evs, x :: xs, h => by simp [lookAll, h.1.1, VS.look h.2]
  | _, [], _ :: _, h => h.elim
  | _, _ :: _, [], h => h.elim
theorem ta_nil : T DS' t mNil sNil t := fun e g b g' f q => by
  obtain ⟨rfl, rfl⟩ := S.inv0 q
  exact ⟨[], e, rfl, f, .refl, rfl⟩
theorem tb_nil : T VS t mNil sNil t := fun e g b g' f q => by
  obtain ⟨rfl, rfl⟩ := S.inv0 q
  exact ⟨[], e, rfl, f, .refl, trivial⟩
theorem ta_cons {ma : M EV} {mr : M (List EV)} {a : S PyData} {r : S (List PyData)} (ha : T HD t ma a t1) (hr : T DS' t1 mr r t2) : T DS' t (mCons ma mr) (sCons a r) t2 := by
  intro e g z g' f q
  obtain ⟨x, g1, q1, q⟩ := S.inv q
  obtain ⟨y, g2, q2, q⟩ := S.inv q
  obtain ⟨rfl, rfl⟩ := S.inv0 q
  obtain ⟨u, e1, h1, f1, k1, r1⟩ := ha e g x g1 f q1
  obtain ⟨v, e2, h2, f2, k2, r2⟩ := hr e1 g1 y g2 f1 q2
  cases r1
  cases r2
  exact ⟨_, e2, by unfold mCons; rw [bind_eq h1, bind_eq h2]; rfl, f2, k1.trans k2, rfl⟩
theorem tb_cons {ma : M EV} {mr : M (List EV)} {a : S PyData} {r : S (List PyData)} (ha : T VA t ma a t1) (hr : T VS t1 mr r t2) : T VS t (mCons ma mr) (sCons a r) t2 := by
  intro e g z g' f q
  obtain ⟨x, g1, q1, q⟩ := S.inv q
  obtain ⟨y, g2, q2, q⟩ := S.inv q
  obtain ⟨rfl, rfl⟩ := S.inv0 q
  obtain ⟨u, e1, h1, f1, k1, r1⟩ := ha e g x g1 f q1
  obtain ⟨v, e2, h2, f2, k2, r2⟩ := hr e1 g1 y g2 f1 q2
  exact ⟨u :: v, e2, by unfold mCons; rw [bind_eq h1, bind_eq h2]; rfl, f2, k1.trans k2, k2.va r1, r2⟩
def starOf : PyData → Option (List PyData)
  | .list ds => some ds
  | .tuple ds => some ds
  | _ => none
def sStar (a : S PyData) (r : S (List PyData)) : S (List PyData) := a >>= fun x => S.opt (starOf x) >>= fun ds => r >>= fun xs => pure (ds ++ xs)
theorem ta_star {ma : M EV} {mr : M (List EV)} {a : S PyData} {r : S (List PyData)} (ha : T VA t ma a t1) (hr : T DS' t1 mr r t2) : T DS' t (mStar ma mr) (sStar a r) t2 := by
  intro e g z g' f q
  obtain ⟨x, g1, q1, q⟩ := S.inv q
  obtain ⟨ds, g1', q3, q⟩ := S.inv q
  obtain ⟨q3', rfl⟩ := S.invO q3
  obtain ⟨y, g2, q2, q⟩ := S.inv q
  obtain ⟨rfl, rfl⟩ := S.inv0 q
  obtain ⟨u, e1, h1, f1, k1, r1⟩ := ha e g x _ f q1
  obtain ⟨v, e2, h2, f2, k2, r2⟩ := hr e1 _ y g2 f1 q2
  cases r2
  refine ⟨_, e2, ?_, f2, k1.trans k2, rfl⟩
  unfold mStar
  rw [bind_eq h1]
  cases x <;> first | (cases q3'; done) | skip
  all_goals
    cases q3'
    simp only [r1.1]
    rw [bind_eq h2]
    simp [M.pure]
theorem dataOf_map : ∀ ds : List PyData, dataOf (ds.map .d) = some ds
  | [] => rfl
  | d :: ds => by simp [dataOf, dataOf_map ds]
def sSz {α : Type} (f : List PyData → α) (ds : List PyData) : S α := if ds.length ≤ sizeLine then pure (f ds) else S.fail
theorem sSz_inv {α : Type} {f : List PyData → α} {ds : List PyData} {g g' : G} {b : α} (h : sSz f ds g = some (b, g')) : ds.length ≤ sizeLine ∧ b = f ds ∧ g = g' := by
  unfold sSz at h
  by_cases c : ds.length ≤ sizeLine
  · rw [if_pos c] at h
    obtain ⟨h1, h2⟩ := S.inv0 h
    exact ⟨c, h1.symm, h2⟩
  · rw [if_neg c] at h; cases h
def sTup (s : S (List PyData)) : S PyData := s >>= sSz .tuple
def sLst (s : S (List PyData)) : S PyData := s >>= sSz .list
theorem te_tup {m : M (List EV)} {s : S (List PyData)} (h : T DS' t m s t1) : T HD t (mDisp (fun ds => .d (.tuple ds)) m) (sTup s) t1 := by
  refine T.bind' h fun e u x g z g' f r q => ?_
  obtain ⟨c, rfl, rfl⟩ := sSz_inv q
  cases r
  exact ⟨.d (.tuple x), by simp [dataOf_map, mSized, szd, c, M.opt, M.pure, RV.ev], rfl⟩
theorem te_lst {m : M (List EV)} {s : S (List PyData)} (h : T DS' t m s t1) : T FR t (mDisp (fun ds => .fr (.list ds)) m) (sLst s) t1 := by
  refine T.bind' h fun e u x g z g' f r q => ?_
  obtain ⟨c, rfl, rfl⟩ := sSz_inv q
  cases r
  exact ⟨.fr (.list x), by simp [dataOf_map, mSized, szd, c, M.opt, M.pure, RV.ev], FR.of rfl⟩
/-! builtins -/
def sCallB (gop : List PyData → Option RV) (a : S (List PyData)) : S PyData := a >>= fun xs => sOp (gop xs)
theorem te_callB {gop : List PyData → Option RV} [w : WfL gop] {m : M (List EV)} {s : S (List PyData)} (h : T VS t m s t1) : T HA t (mCallB gop m) (sCallB gop s) t1 := by
  refine T.bind' h fun e u x g z g' f r q => ?_
  obtain ⟨r', q3, rfl, rfl⟩ := sOp_inv q
  refine ⟨r'.ev, ?_, r'.ha (w.wf _ _ q3)⟩
  simp only [r.look, q3, Option.map_some, M.opt, M.pure]
theorem te_callBN {gop : List PyData → Option RV} [w : NewL gop] {m : M (List EV)} {s : S (List PyData)} (h : T VS t m s t1) : T FR t (mCallB gop m) (sCallB gop s) t1 := by
  refine T.bind' h fun e u x g z g' f r q => ?_
  obtain ⟨r', q3, rfl, rfl⟩ := sOp_inv q
  refine ⟨r'.ev, ?_, RV.fr_of (w.nw _ _ q3)⟩
  simp only [r.look, q3, Option.map_some, M.opt, M.pure]
def sIsi (T : String) (a : S PyData) : S PyData := a >>= fun x => pure (.bool (isiD T x))
theorem te_isi {z : String} {m : M EV} {s : S PyData} (h : T VA t m s t1) : T HD t (mIsi z m) (sIsi z s) t1 := by
  refine T.bind' h fun e u x g z g' f r q => ?_
  obtain ⟨rfl, rfl⟩ := S.inv0 q
  exact ⟨_, by simp only [r.1], rfl⟩
def sRepr (a : S PyData) : S PyData := a >>= fun x => sOp (pyRepr1 x)
theorem te_repr {m : M PyData} {s : S PyData} (h : T EQ t m s t1) : T HD t (mRepr m) (sRepr s) t1 := by
  refine T.bind' h fun e u x g z g' f r q => ?_
  cases r
  obtain ⟨r', q3, rfl, rfl⟩ := sOp_inv q
  refine ⟨r'.ev, by simp only [q3, Option.map_some, M.opt, M.pure], ?_⟩
  unfold pyRepr1 at q3
  split at q3
  · cases q3; rfl
  · cases q3
def partS : PyData → S (Option Int)
  | .int i => pure (some i)
  | _ => S.fail
theorem to_none : T EQ t (M.pure none : M (Option Int)) (pure none) t := fun e g b g' f q => by
  obtain ⟨rfl, rfl⟩ := S.inv0 q
  exact ⟨none, e, rfl, f, .refl, rfl⟩
theorem to_some {m : M PyData} {s : S PyData} (h : T EQ t m s t1) : T EQ t (m.bind mPart) (s >>= partS) t1 := by
  refine T.bind' h fun e u x g z g' f r q => ?_
  cases r
  cases u <;> first | (cases q; done) | skip
  obtain ⟨rfl, rfl⟩ := S.inv0 q
  exact ⟨_, rfl, rfl⟩
def sSl (a : S PyData) (lo hi : S (Option Int)) : S PyData := a >>= fun x => lo >>= fun i => hi >>= fun j => sOp (pySl x i j)
theorem sl_nw {x : PyData} {i j : Option Int} {r : RV} (h : pySl x i j = some r) : (isObj r.val = true → r = .fr r.val) ∧ (isObj r.val = false → r = .d r.val) := by
  unfold pySl at h
  split at h
  · cases h; exact ⟨fun _ => rfl, fun z => (by cases z)⟩
  · cases h; exact ⟨fun z => (by cases z), fun _ => rfl⟩
  · split at h
    · cases h; exact ⟨fun z => (by cases z), fun _ => rfl⟩
    · cases h
  · cases h
theorem sl_wf {x : PyData} {i j : Option Int} {r : RV} (h : pySl x i j = some r) : r.wf := by
  unfold pySl at h
  split at h
  · cases h; rfl
  · cases h; trivial
  · split at h
    · cases h; trivial
    · cases h
  · cases h
theorem te_slice {ma : M EV} {ml mh : M (Option Int)} {a : S PyData} {lo hi : S (Option Int)} (ha : T VA t ma a t1) (hl : T EQ t1 ml lo t2) (hh : T EQ t2 mh hi t3) : T FR t (mSl ma ml mh) (sSl a lo hi) t3 := by
  intro e g z g' f q
  obtain ⟨x, g1, q1, q⟩ := S.inv q
  obtain ⟨i, g2, q2, q⟩ := S.inv q
  obtain ⟨j, g3, q3, q⟩ := S.inv q
  obtain ⟨r, q4, rfl, rfl⟩ := sOp_inv q
  obtain ⟨u, e1, h1, f1, k1, r1⟩ := ha e g x g1 f q1
  obtain ⟨v, e2, h2, f2, k2, r2⟩ := hl e1 g1 i g2 f1 q2
  obtain ⟨w, e3, h3, f3, k3, r3⟩ := hh e2 g2 j _ f2 q3
  cases r2
  cases r3
  refine ⟨r.ev, e3, ?_, f3, k1.trans (k2.trans k3), RV.fr_of (sl_nw q4)⟩
  unfold mSl
  rw [bind_eq h1, bind_eq h2, bind_eq h3]
  simp only [((k2.trans k3).va r1).1, q4, Option.map_some, M.opt, M.pure]
def fzS : SS → SS
  | .ow x => .d x
  | .va x => .d x
  | .any => .jk
  | .dt _ => .jk
  | s => s
theorem fzS_ok {s : SS} {x : Slot} (h : s.ok x) : (fzS s).ok (fz x) := by
  cases s with
  | d y => cases (show x = .d y from h); rfl
  | ow y =>
    rcases SS.lov x h with rfl | ⟨rfl, _⟩ <;> rfl
  | va y =>
    rcases h with rfl | ⟨rfl, _⟩ <;> rfl
  | src b => cases (show x = .src b from h); rfl
  | scr ns => cases (show x = .scr ns from h); rfl
  | jk => intro y; cases x <;> simp [fz]
  | any => intro y; cases x <;> simp [fz]
  | dt kvs => intro y; cases x <;> simp [fz]
theorem Fits.frz : ∀ {t : List SS} {e : Env'}, Fits t e → Fits (t.map fzS) (frzE e)
  | [], [], _ => trivial
  | t :: ts, s :: ss, h => ⟨fzS_ok h.1, Fits.frz h.2⟩
  | [], _ :: _, h => h.elim
  | _ :: _, [], h => h.elim
def noLstS (x : PyData) : S PyData := if noLst x then pure x else S.fail
theorem te_thaw {m : M EV} {s : S PyData} (h : T HA (t.map fzS) m s t1) (nt : t.all SS.noT = true := by rfl) : T HD t (mThaw m) (s >>= noLstS) t := fun e g x g' f q => by
  obtain ⟨y, g1, q1, q2⟩ := S.inv q
  unfold noLstS at q2
  by_cases c : noLst y = true
  · rw [if_pos c] at q2
    obtain ⟨rfl, rfl⟩ := S.inv0 q2
    obtain ⟨ev, e1, h1, _, _, h2⟩ := h (frzE e) g y _ f.frz q1
    have he : ev = .d y := by
      rcases h2 with h2 | ⟨_, h2⟩
      · exact h2
      · cases y <;> first | (cases h2; done) | (cases c; done)
    subst he
    refine ⟨.d y, e, ?_, f, .refl, rfl⟩
    unfold mThaw
    rw [if_pos (noTE_of f nt), h1]
    simp only [c, if_true]
  · rw [if_neg c] at q2; cases q2
/-! ranges -/
def intS : PyData → S Int
  | .int i => pure i
  | _ => S.fail
theorem intS_inv {x : PyData} {g g' : G} {b : Int} (h : intS x g = some (b, g')) : x = .int b ∧ g = g' := by
  cases x <;> first | (cases h; done) | skip
  exact let ⟨a, b⟩ := S.inv0 h; ⟨by rw [a], b⟩
def sRgL (f : List PyData → PyData) (a : S (Int × Int)) : S PyData := a >>= fun p => S.opt (rgTo p.1 p.2) >>= fun ds => pure (f ds)
def sRg1 (a : S PyData) : S (Int × Int) := a >>= fun x => intS x >>= fun n => pure (0, n)
def sRg2 (a b : S PyData) : S (Int × Int) := a >>= fun x => b >>= fun y => intS x >>= fun i => intS y >>= fun j => pure (i, j)
theorem tr_1 {ma : M PyData} {a : S PyData} (h : T EQ t ma a t1) : T EQ t (mRg1 ma) (sRg1 a) t1 := by
  refine T.bind' h fun e u x g z g' f r q => ?_
  cases r
  obtain ⟨i, g1, q1, q⟩ := S.inv q
  obtain ⟨rfl, rfl⟩ := intS_inv q1
  obtain ⟨rfl, rfl⟩ := S.inv0 q
  exact ⟨_, rfl, rfl⟩
theorem tr_2 {ma mb : M PyData} {a b : S PyData} (ha : T EQ t ma a t1) (hb : T EQ t1 mb b t2) : T EQ t (mRg2 ma mb) (sRg2 a b) t2 := by
  refine T.bind ha fun e u x g z g' f r q => ?_
  cases r
  obtain ⟨y, g1, q1, q⟩ := S.inv q
  obtain ⟨v, e2, h2, f2, k2, r2⟩ := hb e g y g1 f q1
  cases r2
  obtain ⟨i, g2, q1, q⟩ := S.inv q
  obtain ⟨rfl, rfl⟩ := intS_inv q1
  obtain ⟨j, g3, q1, q⟩ := S.inv q
  obtain ⟨rfl, rfl⟩ := intS_inv q1
  obtain ⟨rfl, rfl⟩ := S.inv0 q
  exact ⟨_, e2, by rw [bind_eq h2]; rfl, f2, k2, rfl⟩
theorem te_rgL {m : M (Int × Int)} {s : S (Int × Int)} (h : T EQ t m s t1) : T FR t (mRgL (fun ds => .fr (.list ds)) m) (sRgL .list s) t1 := by
  refine T.bind' h fun e u x g z g' f r q => ?_
  cases r
  obtain ⟨i, j⟩ := u
  obtain ⟨ds, g1, q0, q⟩ := S.inv q
  obtain ⟨q1, rfl⟩ := S.invO q0
  obtain ⟨rfl, rfl⟩ := S.inv0 q
  exact ⟨_, by rw [rgGo_eq, show rgTo i j = some ds from q1]; rfl, FR.of rfl⟩
theorem te_rgT {m : M (Int × Int)} {s : S (Int × Int)} (h : T EQ t m s t1) : T HD t (mRgL (fun ds => .d (.tuple ds)) m) (sRgL .tuple s) t1 := by
  refine T.bind' h fun e u x g z g' f r q => ?_
  cases r
  obtain ⟨i, j⟩ := u
  obtain ⟨ds, g1, q0, q⟩ := S.inv q
  obtain ⟨q1, rfl⟩ := S.invO q0
  obtain ⟨rfl, rfl⟩ := S.inv0 q
  exact ⟨_, by rw [rgGo_eq, show rgTo i j = some ds from q1]; rfl, rfl⟩
/-! walks -/
def itemsS : PyData → S (List PyData)
  | .list ds => pure ds
  | .tuple ds => pure ds
  | .str z => pure (signs z)
  | _ => S.fail
def sItems (a : S PyData) : S (List PyData) := a >>= itemsS
theorem ti_items {m : M PyData} {s : S PyData} (h : T EQ t m s t1) : T EQ t (m.bind mItems) (sItems s) t1 := by
  refine T.bind' h fun e u x g z g' f r q => ?_
  cases r
  cases u <;> first | (cases q; done) | skip
  all_goals
    obtain ⟨rfl, rfl⟩ := S.inv0 q
    exact ⟨_, rfl, rfl⟩
def sRange1 (a : S PyData) : S (List PyData) := a >>= fun x => intS x >>= fun j => S.opt (rngTo 0 j)
def sRange2 (a b : S PyData) : S (List PyData) := a >>= fun x => b >>= fun y => intS x >>= fun i => intS y >>= fun j => S.opt (rngTo i j)
theorem VA.int {e : Env'} {ev : EV} {i : Int} (h : VA e ev (.int i)) : ev = .d (.int i) := h.2 rfl
theorem ti_range1 {ma : M EV} {a : S PyData} (h : T VA t ma a t1) : T EQ t (M.bind (mCons ma mNil) mRange1) (sRange1 a) t1 := by
  intro e g z g' f q
  obtain ⟨x, g1, q1, q⟩ := S.inv q
  obtain ⟨u, e1, h1, f1, k1, r1⟩ := h e g x _ f q1
  obtain ⟨j, g2, q2, q⟩ := S.inv q
  obtain ⟨rfl, rfl⟩ := intS_inv q2
  obtain ⟨q9, rfl⟩ := S.invO q
  cases r1.int
  refine ⟨z, e1, ?_, f1, k1, rfl⟩
  rw [bind_eq (show mCons ma mNil e g = _ by unfold mCons; rw [bind_eq h1]; rfl)]
  simp [mRange1, evInts, M.opt, M.bind, M.pure, rng1, q9]
theorem ti_range2 {ma mb : M EV} {a b : S PyData} (ha : T VA t ma a t1) (hb : T VA t1 mb b t2) : T EQ t (M.bind (mCons ma (mCons mb mNil)) mRange2) (sRange2 a b) t2 := by
  intro e g z g' f q
  obtain ⟨x, g1, q1, q⟩ := S.inv q
  obtain ⟨u, e1, h1, f1, k1, r1⟩ := ha e g x _ f q1
  obtain ⟨y, g1', q1', q⟩ := S.inv q
  obtain ⟨v, e2, h2, f2, k2, r2⟩ := hb e1 _ y _ f1 q1'
  obtain ⟨i, g2, q2, q⟩ := S.inv q
  obtain ⟨rfl, rfl⟩ := intS_inv q2
  obtain ⟨j, g2, q2, q⟩ := S.inv q
  obtain ⟨rfl, rfl⟩ := intS_inv q2
  obtain ⟨q9, rfl⟩ := S.invO q
  cases r1.int
  cases r2.int
  refine ⟨z, e2, ?_, f2, k1.trans k2, rfl⟩
  rw [bind_eq (show mCons ma (mCons mb mNil) e g = .ok [.d (.int i), .d (.int j)] e2 g1' by unfold mCons; rw [bind_eq h1]; rw [bind_eq (show M.bind mb _ e1 _ = _ from by rw [bind_eq h2]; rfl)]; rfl)]
  simp [mRange2, evInts, M.opt, M.bind, M.pure, rng2, q9]
def seqOf : PyData → Option (List PyData)
  | .list ds => some ds
  | .tuple ds => some ds
  | _ => none
def sEnum (a : S PyData) : S (List PyData) := a >>= fun x => S.opt (seqOf x) >>= fun ds => pure (numbered 0 ds)
theorem ti_enum {ma : M EV} {a : S PyData} (h : T HD t ma a t1) : T EQ t (M.bind (mCons ma mNil) mEnum) (sEnum a) t1 := by
  intro e g z g' f q
  obtain ⟨x, g1, q1, q⟩ := S.inv q
  obtain ⟨u, e1, h1, f1, k1, r1⟩ := h e g x _ f q1
  obtain ⟨ds, g2, q2, q⟩ := S.inv q
  obtain ⟨q2', rfl⟩ := S.invO q2
  obtain ⟨rfl, rfl⟩ := S.inv0 q
  cases r1
  refine ⟨_, e1, ?_, f1, k1, rfl⟩
  rw [bind_eq (show mCons ma mNil e g = .ok [.d x] e1 g1 by unfold mCons; rw [bind_eq h1]; rfl)]
  cases x <;> first | (cases q2'; done) | (cases q2'; rfl)
def zipOf : PyData → PyData → Option (List PyData)
  | .list ds, .list es => some (zipped ds es)
  | .tuple ds, .tuple es => some (zipped ds es)
  | _, _ => none
def sZip (a b : S PyData) : S (List PyData) := a >>= fun x => b >>= fun y => S.opt (zipOf x y)
theorem ti_zip {ma mb : M EV} {a b : S PyData} (ha : T HD t ma a t1) (hb : T HD t1 mb b t2) : T EQ t (M.bind (mCons ma (mCons mb mNil)) mZip) (sZip a b) t2 := by
  intro e g z g' f q
  obtain ⟨x, g1, q1, q⟩ := S.inv q
  obtain ⟨u, e1, h1, f1, k1, r1⟩ := ha e g x _ f q1
  obtain ⟨y, g2, q2, q⟩ := S.inv q
  obtain ⟨v, e2, h2, f2, k2, r2⟩ := hb e1 _ y _ f1 q2
  obtain ⟨q9, rfl⟩ := S.invO q
  cases r1
  cases r2
  refine ⟨z, e2, ?_, f2, k1.trans k2, rfl⟩
  rw [bind_eq (show mCons ma (mCons mb mNil) e g = .ok [.d x, .d y] e2 g2 by unfold mCons; rw [bind_eq h1]; rw [bind_eq (show M.bind mb _ e1 _ = _ from by rw [bind_eq h2]; rfl)]; rfl)]
  cases x <;> cases y <;> first | (cases q9; done) | (cases q9; rfl)
def sIdx (a b : S PyData) : S PyData := a >>= fun x => b >>= fun y => sOp (pyIndex x y)
theorem te_index {ma mb : M EV} {a b : S PyData} (ha : T VA t ma a t1) (hb : T VA t1 mb b t2) : T HA t (mIdx ma mb) (sIdx a b) t2 := by
  intro e g z g' f q
  obtain ⟨x, g1, q1, q⟩ := S.inv q
  obtain ⟨y, g2, q2, q⟩ := S.inv q
  obtain ⟨r, q3, rfl, rfl⟩ := sOp_inv q
  obtain ⟨u, e1, h1, f1, k1, r1⟩ := ha e g x g1 f q1
  obtain ⟨v, e2, h2, f2, k2, r2⟩ := hb e1 g1 y g2 f1 q2
  have hx : ∃ ds, x = .list ds := by
    cases x <;> first | (cases q3; done) | exact ⟨_, rfl⟩
  obtain ⟨ds, rfl⟩ := hx
  refine ⟨r.ev, e2, ?_, f2, k1.trans k2, r.ha ?_⟩
  · unfold mIdx
    rw [bind_eq h1]
    simp only [r1.1]
    rw [bind_eq h2]
    simp only [(k2.va r1).1, r2.1, q3, Option.map_some, M.opt, M.pure]
  · unfold pyIndex at q3
    dsimp only at q3
    split at q3
    · cases q : indexD ds y with
      | none => rw [q] at q3; cases q3
      | some j => rw [q] at q3; cases q3; trivial
    · cases q3
def cmpB (o : Option RV) : S Bool := match o with
  | some (.d (.bool k)) => pure k
  | _ => S.fail
theorem cmpB_inv {o : Option RV} {g g' : G} {b : Bool} (h : cmpB o g = some (b, g')) : o = some (.d (.bool b)) ∧ g = g' := by
  unfold cmpB at h
  split at h
  · obtain ⟨rfl, rfl⟩ := S.inv0 h; exact ⟨rfl, rfl⟩
  · cases h
def sChain (g1 g2 : PyData → PyData → Option RV) (a b c : S PyData) : S PyData := a >>= fun x => b >>= fun y => cmpB (g1 x y) >>= fun k => if k then c >>= fun z => sOp (g2 y z) else pure (.bool false)
theorem te_chain {g1 g2 : PyData → PyData → Option RV} [w : Wf2 g2] {ma mb mc : M EV} {a b c : S PyData} (ha : T VA t ma a t1) (hb : T VA t1 mb b t2) (hc : T VA t2 mc c t2) : T HA t (mChain g1 g2 ma mb mc) (sChain g1 g2 a b c) t2 := by
  intro e g z g' f q
  obtain ⟨x, g1, q1, q⟩ := S.inv q
  obtain ⟨y, g2, q2, q⟩ := S.inv q
  obtain ⟨k, g3, q3, q⟩ := S.inv q
  obtain ⟨q3', rfl⟩ := cmpB_inv q3
  obtain ⟨u, e1, h1, f1, k1, r1⟩ := ha e g x g1 f q1
  obtain ⟨v, e2, h2, f2, k2, r2⟩ := hb e1 g1 y _ f1 q2
  cases k with
  | false =>
    obtain ⟨rfl, rfl⟩ := S.inv0 q
    refine ⟨_, e2, ?_, f2, k1.trans k2, .inl rfl⟩
    unfold mChain
    rw [bind_eq h1, bind_eq h2]
    simp only [(k2.va r1).1, r2.1, q3']
    rfl
  | true =>
    obtain ⟨zz, g4, q4, q⟩ := S.inv q
    obtain ⟨r, q5, rfl, rfl⟩ := sOp_inv q
    obtain ⟨v', e3, h3, f3, k3, r3⟩ := hc e2 _ zz _ f2 q4
    refine ⟨r.ev, e3, ?_, f3, k1.trans (k2.trans k3), r.ha (w.wf _ _ _ q5)⟩
    unfold mChain
    rw [bind_eq h1, bind_eq h2]
    simp only [(k2.va r1).1, r2.1, q3']
    simp only [if_true]
    rw [bind_eq h3]
    simp only [(k3.va r2).1, r3.1, q5, Option.map_some, M.opt, M.pure]
end
end DL
/-! functional mirrors: patterns, comprehensions, statements, defs -/
namespace DL
open PySem L2
/-! patterns -/
theorem Fits.setD {t : List SS} {e : Env'} (f : Fits t e) (i : Nat) (x : PyData) : Fits (t.set i (.d x)) (e.set i (.d x)) := f.set (s := .d x) i rfl
structure PatOk {α : Type} (p : Pat) (vs : List Nat) (un : PyData → Option α) (se : α → List SS → List SS) (n : Nat) : Prop where
  run : ∀ (x : PyData) (q : α) (t : List SS) (e : Env'), t.length = n → un x = some q → Fits t e → ∃ e', asg p x e = some e' ∧ Fits (se q t) e' ∧ ∀ j, j ∉ vs → e'[j]? = e[j]?
def un1 (x : PyData) : Option PyData := some x
def un2 : PyData → Option (PyData × PyData)
  | .tuple [a, b] => some (a, b)
  | _ => none
def un3 : PyData → Option (PyData × PyData × PyData)
  | .tuple [a, b, c] => some (a, b, c)
  | _ => none
def un4 : PyData → Option (PyData × PyData × PyData × PyData)
  | .tuple [a, b, c, d] => some (a, b, c, d)
  | _ => none
/-- ((a, b), c) -/
def un21 : PyData → Option (PyData × PyData × PyData)
  | .tuple [.tuple [a, b], c] => some (a, b, c)
  | _ => none
/-- (a, (b, c)) -/
def un12 : PyData → Option (PyData × PyData × PyData)
  | .tuple [a, .tuple [b, c]] => some (a, b, c)
  | _ => none
theorem asg_nm {i : Nat} {x : PyData} {e : Env'} (h : i < e.length) : asg (.nm i) x e = some (e.set i (.d x)) := by simp [asg, h]
theorem pat1 {i n : Nat} (h : i < n) : PatOk (.nm i) [i] un1 (fun q t => t.set i (.d q)) n := ⟨fun x q t e ht hq f => by
  cases hq
  refine ⟨_, asg_nm (by rw [f.len, ht]; exact h), f.set i rfl, fun j hj => ?_⟩
  exact get_set_ne (fun z => hj (by simp [z]))⟩
theorem pat2 {i j n : Nat} (h : i < n ∧ j < n) : PatOk (.tp [.nm i, .nm j]) [i, j] un2 (fun q t => (t.set i (.d q.1)).set j (.d q.2)) n := ⟨fun x q t e ht hq f => by
  unfold un2 at hq
  split at hq
  · cases hq
    refine ⟨_, ?_, (f.setD i _).setD j _, fun k hk => ?_⟩
    · simp only [asg, asgL, f.len, ht, h.1, h.2, if_true, List.length_set]
    · simp only [List.mem_cons, List.not_mem_nil, or_false, not_or] at hk
      rw [get_set_ne (fun z => hk.2 z.symm), get_set_ne (fun z => hk.1 z.symm)]
  · cases hq⟩
theorem pat3 {i j k n : Nat} (h : i < n ∧ j < n ∧ k < n) : PatOk (.tp [.nm i, .nm j, .nm k]) [i, j, k] un3 (fun q t => ((t.set i (.d q.1)).set j (.d q.2.1)).set k (.d q.2.2)) n := ⟨fun x q t e ht hq f => by
  unfold un3 at hq
  split at hq
  · cases hq
    refine ⟨_, ?_, ((f.setD i _).setD j _).setD k _, fun l hl => ?_⟩
    · simp only [asg, asgL, f.len, ht, h.1, h.2.1, h.2.2, if_true, List.length_set]
    · simp only [List.mem_cons, List.not_mem_nil, or_false, not_or] at hl
      rw [get_set_ne (fun z => hl.2.2 z.symm), get_set_ne (fun z => hl.2.1 z.symm), get_set_ne (fun z => hl.1 z.symm)]
  · cases hq⟩
theorem pat4 {i j k m n : Nat} (h : i < n ∧ j < n ∧ k < n ∧ m < n) : PatOk (.tp [.nm i, .nm j, .nm k, .nm m]) [i, j, k, m] un4 (fun q t => (((t.set i (.d q.1)).set j (.d q.2.1)).set k (.d q.2.2.1)).set m (.d q.2.2.2)) n := ⟨fun x q t e ht hq f => by
  unfold un4 at hq
  split at hq
  · cases hq
    refine ⟨_, ?_, (((f.setD i _).setD j _).setD k _).setD m _, fun l hl => ?_⟩
    · simp only [asg, asgL, f.len, ht, h.1, h.2.1, h.2.2.1, h.2.2.2, if_true, List.length_set]
    · simp only [List.mem_cons, List.not_mem_nil, or_false, not_or] at hl
      rw [get_set_ne (fun z => hl.2.2.2 z.symm), get_set_ne (fun z => hl.2.2.1 z.symm), get_set_ne (fun z => hl.2.1 z.symm), get_set_ne (fun z => hl.1 z.symm)]
  · cases hq⟩
theorem pat21 {i j k n : Nat} (h : i < n ∧ j < n ∧ k < n) : PatOk (.tp [.tp [.nm i, .nm j], .nm k]) [i, j, k] un21 (fun q t => ((t.set i (.d q.1)).set j (.d q.2.1)).set k (.d q.2.2)) n := ⟨fun x q t e ht hq f => by
  unfold un21 at hq
  split at hq
  · cases hq
    refine ⟨_, ?_, ((f.setD i _).setD j _).setD k _, fun l hl => ?_⟩
    · simp only [asg, asgL, f.len, ht, h.1, h.2.1, h.2.2, if_true, List.length_set]
    · simp only [List.mem_cons, List.not_mem_nil, or_false, not_or] at hl
      rw [get_set_ne (fun z => hl.2.2 z.symm), get_set_ne (fun z => hl.2.1 z.symm), get_set_ne (fun z => hl.1 z.symm)]
  · cases hq⟩
theorem pat12 {i j k n : Nat} (h : i < n ∧ j < n ∧ k < n) : PatOk (.tp [.nm i, .tp [.nm j, .nm k]]) [i, j, k] un12 (fun q t => ((t.set i (.d q.1)).set j (.d q.2.1)).set k (.d q.2.2)) n := ⟨fun x q t e ht hq f => by
  unfold un12 at hq
  split at hq
  · cases hq
    refine ⟨_, ?_, ((f.setD i _).setD j _).setD k _, fun l hl => ?_⟩
    · simp only [asg, asgL, f.len, ht, h.1, h.2.1, h.2.2, if_true, List.length_set]
    · simp only [List.mem_cons, List.not_mem_nil, or_false, not_or] at hl
      rw [get_set_ne (fun z => hl.2.2 z.symm), get_set_ne (fun z => hl.2.1 z.symm), get_set_ne (fun z => hl.1 z.symm)]
  · cases hq⟩
/-! comprehensions -/
def mapG {α β : Type} (f : α → S β) : List α → S (List β)
  | [] => pure []
  | x :: xs => f x >>= fun y => mapG f xs >>= fun ys => pure (y :: ys)
def compG {α β : Type} (f : α → S (Option β)) : List α → S (List β)
  | [] => pure []
  | x :: xs => f x >>= fun o => compG f xs >>= fun ys => pure (o.toList ++ ys)
def sComp {α : Type} (un : PyData → Option α) (items : S (List PyData)) (ct : α → S Bool) (ce : α → S PyData) : S PyData :=
  items >>= fun xs => compG (fun x => S.opt (un x) >>= fun q => ct q >>= fun b => if b then ce q >>= fun y => pure (some y) else pure none) xs >>= sSz .list
def sCompA {α : Type} (un : PyData → Option α) (items : S (List PyData)) (ce : α → S PyData) : S PyData :=
  items >>= fun xs => mapG (fun x => S.opt (un x) >>= ce) xs >>= sSz .list
def wipeT (t : List SS) : List Nat → List SS
  | [] => t
  | v :: vs => (wipeT t vs).set v .jk
theorem wipeT_len (t : List SS) : ∀ vs : List Nat, (wipeT t vs).length = t.length
  | [] => rfl
  | v :: vs => by simp [wipeT, wipeT_len t vs]
theorem Fits.wipe {t : List SS} {e : Env'} (f : Fits t e) : ∀ vs : List Nat, Fits (wipeT t vs) (wipeE e vs)
  | [] => f
  | v :: vs => (f.wipe vs).set v nofun
def SS.calm : SS → Bool
  | .d _ => true
  | .src _ => true
  | .scr _ => true
  | .jk => true
  | _ => false
def noOwnT (t : List SS) (vs : List Nat) : Bool := vs.all fun i => match t[i]? with
  | some s => s.calm
  | none => false
theorem noOwn_of {t : List SS} {e : Env'} (f : Fits t e) {vs : List Nat} (h : noOwnT t vs = true) : noOwn e vs = true := by
  unfold noOwn
  unfold noOwnT at h
  rw [List.all_eq_true] at h ⊢
  intro i hi
  have hi := h i hi
  split at hi
  · rename_i s hs
    obtain ⟨x, h1, h2⟩ := f.get hs
    rw [h1]
    cases s with
    | d y => cases (show x = .d y from h2); rfl
    | src b => cases (show x = .src b from h2); rfl
    | scr ns => cases (show x = .scr ns from h2); rfl
    | jk => cases x with
      | own y => exact absurd rfl (h2 y)
      | _ => rfl
    | _ => cases hi
  · cases hi
/-- but for the slots vs -/
def KeepX (vs : List Nat) (e e' : Env') : Prop := ∀ j, j ∉ vs → ∀ x, look e (.bo j) = some x → look e' (.bo j) = some x
theorem KeepX.refl {vs : List Nat} {e : Env'} : KeepX vs e e := fun _ _ _ h => h
theorem KeepX.trans {vs : List Nat} {a b c : Env'} (h : KeepX vs a b) (k : KeepX vs b c) : KeepX vs a c := fun j hj x q => k j hj x (h j hj x q)
theorem Keep.x {vs : List Nat} {a b : Env'} (h : Keep a b) : KeepX vs a b := fun j _ x q => h j x q
theorem keepX_of {vs : List Nat} {a b : Env'} (h : ∀ j, j ∉ vs → b[j]? = a[j]?) : KeepX vs a b := fun j hj x q => by
  simp only [look, h j hj] at q ⊢
  exact q
theorem loopC_T {α : Type} {p : Pat} {vs : List Nat} {un : PyData → Option α} {se : α → List SS → List SS} {tw : List SS} {mt : M Bool} {me : M PyData} {ct : α → S Bool} {ce : α → S PyData} {tc : α → List SS} {te : α → List SS} (hp : PatOk p vs un se tw.length)
    (hc : ∀ q, T EQ (se q tw) mt (ct q) (tc q)) (he : ∀ q, T EQ (tc q) me (ce q) (te q)) (l1 : ∀ q, LE (wipeT (tc q) vs) tw) (l2 : ∀ q, LE (wipeT (te q) vs) tw) :
    ∀ (xs acc : List PyData) (e : Env') (g : G) (ys : List PyData) (g' : G), Fits tw e → acc.length + ys.length ≤ sizeLine →
      compG (fun x => S.opt (un x) >>= fun q => ct q >>= fun b => if b then ce q >>= fun y => pure (some y) else pure none) xs g = some (ys, g') → ∃ e', loopC p vs mt me xs acc e g = .ok (acc ++ ys) e' g' ∧ Fits tw e' ∧ KeepX vs e e'
  | [], acc, e, g, ys, g', f, hz, q => by
    obtain ⟨rfl, rfl⟩ := S.inv0 q
    exact ⟨e, by simp [loopC, M.pure], f, .refl⟩
  | x :: xs, acc, e, g, ys, g', f, hz, q => by
    obtain ⟨o, g1, q1, q2⟩ := S.inv q
    obtain ⟨zs, g2, q3, q4⟩ := S.inv q2
    obtain ⟨rfl, rfl⟩ := S.inv0 q4
    obtain ⟨a, g3, q5, q6⟩ := S.inv q1
    obtain ⟨q7, rfl⟩ := S.invO q5
    obtain ⟨b, g4, q8, q9⟩ := S.inv q6
    obtain ⟨e1, h1, f1, k1⟩ := hp.run x a tw e rfl q7 f
    obtain ⟨b', e2, h2, f2, k2, r2⟩ := hc a e1 _ b _ f1 q8
    cases r2
    unfold loopC
    rw [h1]
    dsimp only
    rw [bind_eq h2]
    have kw : ∀ {e e2 : Env'}, KeepX vs e e2 → KeepX vs e (wipeE e2 vs) := fun k => k.trans (keepX_of fun j hj => wipeE_out hj)
    cases b with
    | true =>
      obtain ⟨y, g5, q10, q11⟩ := S.inv (m := ce a) (f := fun y => pure (some y)) q9
      obtain ⟨rfl, rfl⟩ := S.inv0 q11
      obtain ⟨y', e3, h3, f3, k3, r3⟩ := he a e2 _ y _ f2 q10
      cases r3
      have hz' : acc.length + (zs.length + 1) ≤ sizeLine := by
        have : (Option.toList (some y) ++ zs).length = zs.length + 1 := by simp
        rw [this] at hz; exact hz
      obtain ⟨e', h4, f4, k4⟩ := loopC_T hp hc he l1 l2 xs (acc ++ [y]) (wipeE e3 vs) _ zs _ ((l2 a).fits (f3.wipe vs)) (by simp; omega) q3
      refine ⟨e', ?_, f4, ?_⟩
      · rw [if_pos rfl, bind_eq h3, if_pos (by omega), h4]
        simp
      · exact (kw ((keepX_of k1).trans (k2.x.trans k3.x))).trans k4
    | false =>
      obtain ⟨rfl, rfl⟩ := S.inv0 (a := (none : Option PyData)) q9
      obtain ⟨e', h4, f4, k4⟩ := loopC_T hp hc he l1 l2 xs acc (wipeE e2 vs) _ zs _ ((l1 a).fits (f2.wipe vs)) (by simpa using hz) q3
      refine ⟨e', ?_, f4, ?_⟩
      · rw [if_neg Bool.false_ne_true, h4]
        simp
      · exact (kw ((keepX_of k1).trans k2.x)).trans k4
theorem Fits.ext : ∀ {t : List SS} {e : Env'}, e.length = t.length → (∀ (i : Nat) (s : SS) (x : Slot), t[i]? = some s → e[i]? = some x → s.ok x) → Fits t e
  | [], [], _, _ => trivial
  | t :: ts, x :: xs, hl, h => ⟨h 0 t x rfl rfl, Fits.ext (by simpa using hl) fun i s y h1 h2 => h (i + 1) s y (by simpa using h1) (by simpa using h2)⟩
  | [], _ :: _, hl, _ => by simp at hl
  | _ :: _, [], hl, _ => by simp at hl
theorem wipeT_out {t : List SS} {i : Nat} : ∀ {vs : List Nat}, i ∉ vs → (wipeT t vs)[i]? = t[i]?
  | [], _ => rfl
  | v :: vs, h => by
    rw [List.mem_cons, not_or] at h
    unfold wipeT
    rw [List.getElem?_set_ne (fun z => h.1 z.symm)]
    exact wipeT_out h.2
theorem block_T {vs : List Nat} {t1 : List SS} {e e1 : Env'} (f : Fits t1 e) (h : Fits (wipeT t1 vs) e1) (k : KeepX vs (wipeE e vs) e1) : Fits t1 (backE e e1 vs) ∧ Keep e (backE e e1 vs) := by
  have hl : e1.length = t1.length := by rw [h.len, wipeT_len]
  have he := f.len
  constructor
  · refine Fits.ext (by rw [backE_length]; exact hl) fun i s x h1 h2 => ?_
    by_cases hi : i ∈ vs
    · obtain ⟨y, h3, h4⟩ := f.get h1
      have hb := backE_get_in (e := e1) hi h3 (by
        rcases Nat.lt_or_ge i e1.length with z | z
        · exact z
        · rw [List.getElem?_eq_none (by omega)] at h1; cases h1)
      rw [hb] at h2
      cases h2
      exact h4
    · rw [backE_get_out hi] at h2
      obtain ⟨y, h3, h4⟩ := h.get ((wipeT_out hi).trans h1)
      rw [h2] at h3
      cases h3
      exact h4
  · intro j x hj
    by_cases hi : j ∈ vs
    · have hh : ∃ s, e[j]? = some s := by
        cases q : e[j]? with
        | none => simp [look, q] at hj
        | some s => exact ⟨s, rfl⟩
      obtain ⟨s, hs⟩ := hh
      have hb := backE_get_in (e := e1) hi hs (by
        rcases Nat.lt_or_ge j e.length with z | z
        · omega
        · rw [List.getElem?_eq_none (by omega)] at hs; cases hs)
      simp only [look, hb, hs] at hj ⊢
      exact hj
    · have h1 : look (wipeE e vs) (.bo j) = some x := by
        simp only [look, wipeE_out hi] at hj ⊢
        exact hj
      have h2 := k j hi x h1
      simp only [look, backE_get_out hi] at h2 ⊢
      exact h2
section
variable {t t1 t2 t3 : List SS}
theorem te_comp {α : Type} {p : Pat} {vs : List Nat} {un : PyData → Option α} {se : α → List SS → List SS} {mi : M (List PyData)} {mt : M Bool} {me : M PyData} {si : S (List PyData)} {ct : α → S Bool} {ce : α → S PyData} {tc te : α → List SS}
    (hi : T EQ t mi si t1) (no : noOwnT t1 vs = true) (hp : PatOk p vs un se (wipeT t1 vs).length)
    (hc : ∀ q, T EQ (se q (wipeT t1 vs)) mt (ct q) (tc q)) (he : ∀ q, T EQ (tc q) me (ce q) (te q)) (l1 : ∀ q, LE (wipeT (tc q) vs) (wipeT t1 vs)) (l2 : ∀ q, LE (wipeT (te q) vs) (wipeT t1 vs)) :
    T FR t (mComp p vs mi mt me) (sComp un si ct ce) t1 := by
  refine T.bind hi fun e u xs g b' g' f r q => ?_
  cases r
  obtain ⟨ys, g1, q1, q2⟩ := S.inv q
  obtain ⟨c, rfl, rfl⟩ := sSz_inv q2
  obtain ⟨e', h1, f1, k1⟩ := loopC_T hp hc he l1 l2 u [] (wipeE e vs) g ys _ (f.wipe vs) (by simpa using c) q1
  obtain ⟨f2, k2⟩ := block_T f f1 k1
  refine ⟨.fr (.list ys), _, ?_, f2, k2, FR.of rfl⟩
  have : blockOf vs (loopC p vs mt me u []) e g = .ok ys (backE e e' vs) g1 := by
    unfold blockOf
    rw [if_pos (noOwn_of f no), h1]
    rfl
  rw [bind_eq this]
  rfl
theorem compG_all {α : Type} {un : PyData → Option α} {ce : α → S PyData} : ∀ xs : List PyData, compG (fun x => S.opt (un x) >>= fun q => (pure true : S Bool) >>= fun b => if b then ce q >>= fun y => pure (some y) else pure none) xs = mapG (fun x => S.opt (un x) >>= ce) xs
  | [] => rfl
  | x :: xs => by
    unfold compG mapG
    rw [compG_all xs]
    simp
theorem te_compA {α : Type} {p : Pat} {vs : List Nat} {un : PyData → Option α} {se : α → List SS → List SS} {mi : M (List PyData)} {me : M PyData} {si : S (List PyData)} {ce : α → S PyData} {te : α → List SS}
    (hi : T EQ t mi si t1) (no : noOwnT t1 vs = true) (hp : PatOk p vs un se (wipeT t1 vs).length)
    (he : ∀ q, T EQ (se q (wipeT t1 vs)) me (ce q) (te q)) (l1 : ∀ q, LE (wipeT (se q (wipeT t1 vs)) vs) (wipeT t1 vs)) (l2 : ∀ q, LE (wipeT (te q) vs) (wipeT t1 vs)) :
    T FR t (mComp p vs mi mYes me) (sCompA un si ce) t1 := by
  have h := te_comp (ct := fun _ => pure true) hi no hp (fun q => fun e g b g' f z => by
    obtain ⟨rfl, rfl⟩ := S.inv0 z
    exact ⟨true, e, rfl, f, .refl, rfl⟩) he l1 l2
  have e : sComp un si (fun _ => pure true) ce = sCompA un si ce := by
    unfold sComp sCompA
    simp only [compG_all]
  rw [← e]
  exact h
/-! ### statements -/
def TF {σ : Type} (t : List SS) (m : M Fl) (s : S σ) (t' : σ → List SS) : Prop := ∀ e g v g', Fits t e → s g = some (v, g') → ∃ e', m e g = .ok .nx e' g' ∧ Fits (t' v) e'
def TRt (t : List SS) (m : M Fl) (s : S PyData) : Prop := ∀ e g x g', Fits t e → s g = some (x, g') → ∃ ev e', m e g = .ok (.rt ev) e' g' ∧ HA [] ev x
inductive Out (κ σ : Type) where
  | ret (x : PyData)
  | brk (v : κ)
  | ctn (v : κ)
  | nxt (v : σ)
def OutOk {κ σ : Type} (tl : κ → List SS) (tn : σ → List SS) (g' : G) : Out κ σ → R Fl → Prop
  | .ret x, r => ∃ ev e', r = .ok (.rt ev) e' g' ∧ HA [] ev x
  | .brk v, r => ∃ e', r = .ok .bk e' g' ∧ Fits (tl v) e'
  | .ctn v, r => ∃ e', r = .ok .ct e' g' ∧ Fits (tl v) e'
  | .nxt v, r => ∃ e', r = .ok .nx e' g' ∧ Fits (tn v) e'
def TB {κ σ : Type} (t : List SS) (m : M Fl) (s : S (Out κ σ)) (tl : κ → List SS) (tn : σ → List SS) : Prop := ∀ e g o g', Fits t e → s g = some (o, g') → OutOk tl tn g' o (m e g)
variable {σ τ κ : Type}
theorem tf_nx {t' : σ → List SS} {v : σ} (l : LE t (t' v)) : TF t mNx (pure v) t' := fun e g u g' f q => by
  obtain ⟨rfl, rfl⟩ := S.inv0 q
  exact ⟨e, rfl, l.fits f⟩
theorem tf_weak {m : M Fl} {s : S σ} {t' : σ → List SS} {t'' : τ → List SS} (f : σ → τ) (h : TF t m s t') (l : ∀ v, LE (t' v) (t'' (f v))) : TF t m (s >>= fun v => pure (f v)) t'' := fun e g u g' hf q => by
  obtain ⟨v, g1, q1, q2⟩ := S.inv q
  obtain ⟨rfl, rfl⟩ := S.inv0 q2
  obtain ⟨e', h1, h2⟩ := h e g v _ hf q1
  exact ⟨e', h1, (l v).fits h2⟩
theorem tf_setF {i : Nat} {m : M EV} {s : S PyData} (h : T FR t m s t1) : TF t (mSet i m) s fun x => t1.set i (.ow x) := fun e g x g' f q => by
  obtain ⟨ev, e', h1, h2, _, h3⟩ := h e g x g' f q
  cases c : isObj x with
  | true =>
    cases h3.1 c
    exact ⟨_, by unfold mSet; rw [bind_eq h1]; rfl, h2.set i ⟨fun _ => rfl, fun z => (by rw [c] at z; cases z)⟩⟩
  | false =>
    cases h3.2 c
    exact ⟨_, by unfold mSet; rw [bind_eq h1]; rfl, h2.set i ⟨fun z => (by rw [c] at z; cases z), fun _ => rfl⟩⟩
theorem tf_setD {i : Nat} {m : M EV} {s : S PyData} (h : T HD t m s t1) : TF t (mSet i m) s fun x => t1.set i (.d x) := fun e g x g' f q => by
  obtain ⟨ev, e', h1, h2, _, h3⟩ := h e g x g' f q
  cases h3
  exact ⟨_, by unfold mSet; rw [bind_eq h1]; rfl, h2.set i rfl⟩
theorem tf_setV {i : Nat} {m : M EV} {s : S PyData} (h : T HA t m s t1) : TF t (mSet i m) s fun x => t1.set i (.va x) := fun e g x g' f q => by
  obtain ⟨ev, e', h1, h2, _, h3⟩ := h e g x g' f q
  rcases h3 with rfl | ⟨rfl, h4⟩
  · exact ⟨_, by unfold mSet; rw [bind_eq h1]; rfl, h2.set i (.inl rfl)⟩
  · exact ⟨_, by unfold mSet; rw [bind_eq h1]; rfl, h2.set i (.inr ⟨rfl, h4⟩)⟩
theorem tf_drop {r : Env' → EV → PyData → Prop} {m : M EV} {s : S PyData} (h : T r t m s t1) : TF t (mDrop m) (s >>= fun _ => pure ()) fun _ => t1 := fun e g x g' f q => by
  obtain ⟨v, g1, q1, q2⟩ := S.inv q
  obtain ⟨_, rfl⟩ := S.inv0 q2
  obtain ⟨ev, e', h1, h2, _, _⟩ := h e g v _ f q1
  exact ⟨_, by unfold mDrop; rw [bind_eq h1]; rfl, h2⟩
def appS : PyData → PyData → S PyData
  | .list ds, d => if ds.length < sizeLine then pure (.list (ds ++ [d])) else S.fail
  | _, _ => S.fail
def extS : PyData → PyData → S PyData
  | .list ds, .list es => if ds.length + es.length ≤ sizeLine then pure (.list (ds ++ es)) else S.fail
  | _, _ => S.fail
def popS : PyData → S (PyData × PyData)
  | .list ds => match ds[ds.length - 1]? with
    | some d => pure (d, .list ds.dropLast)
    | none => S.fail
  | _ => S.fail
theorem appS_inv {x d y : PyData} {g g' : G} (h : appS x d g = some (y, g')) : ∃ ds, x = .list ds ∧ ds.length < sizeLine ∧ y = .list (ds ++ [d]) ∧ g = g' := by
  cases x <;> first | (cases h; done) | skip
  rename_i ds
  have h : (if ds.length < sizeLine then (pure (.list (ds ++ [d])) : S PyData) else S.fail) g = some (y, g') := h
  by_cases c : ds.length < sizeLine
  · rw [if_pos c] at h
    obtain ⟨rfl, rfl⟩ := S.inv0 h
    exact ⟨ds, rfl, c, rfl, rfl⟩
  · rw [if_neg c] at h; cases h
theorem extS_inv {x d y : PyData} {g g' : G} (h : extS x d g = some (y, g')) : ∃ ds es, x = .list ds ∧ d = .list es ∧ ds.length + es.length ≤ sizeLine ∧ y = .list (ds ++ es) ∧ g = g' := by
  cases x <;> first | (cases h; done) | skip
  cases d <;> first | (cases h; done) | skip
  rename_i ds es
  have h : (if ds.length + es.length ≤ sizeLine then (pure (.list (ds ++ es)) : S PyData) else S.fail) g = some (y, g') := h
  by_cases c : ds.length + es.length ≤ sizeLine
  · rw [if_pos c] at h
    obtain ⟨rfl, rfl⟩ := S.inv0 h
    exact ⟨ds, es, rfl, rfl, c, rfl, rfl⟩
  · rw [if_neg c] at h; cases h
theorem own_at {e : Env'} {i : Nat} {ds : List PyData} (h : e[i]? = some (.own (.list ds))) : ownIs i e = true ∧ ownL i e = some ds := by
  simp [ownIs, ownL, h]
theorem ow_get {e : Env'} {i : Nat} {x : PyData} (f : Fits t e) (h : t[i]? = some (.ow x)) (hx : isObj x = true := by rfl) : e[i]? = some (.own x) := by
  obtain ⟨s, h1, h2⟩ := f.get h
  rw [h1, h2.1 hx]
theorem ow_ok {x : PyData} (h : isObj x = true) : (SS.ow x).ok (.own x) := ⟨fun _ => rfl, fun z => (by rw [h] at z; cases z)⟩
theorem tf_append {i : Nat} {x : PyData} {m : M PyData} {s : S PyData} (h0 : t[i]? = some (.ow x)) (h : T EQ t m s t1) (h2 : t1[i]? = some (.ow x)) :
    TF t (mDrop (mOn i (mAppend i m))) (s >>= fun d => appS x d) fun y => t1.set i (.ow y) := fun e g y g' f q => by
  obtain ⟨d, g1, q1, q2⟩ := S.inv q
  obtain ⟨d', e', h1, f1, _, rfl⟩ := h e g d _ f q1
  obtain ⟨ds, rfl, c, rfl, rfl⟩ := appS_inv q2
  refine ⟨e'.set i (.own (.list (ds ++ [d']))), ?_, f1.set i (ow_ok rfl)⟩
  have hm : mOn i (mAppend i m) e g = .ok (.d .none) (e'.set i (.own (.list (ds ++ [d'])))) g1 := by
    unfold mOn
    rw [if_pos (own_at (ow_get f h0)).1]
    unfold mAppend
    rw [bind_eq h1]
    simp only [(own_at (ow_get f1 h2)).2, c, if_true]
  unfold mDrop
  rw [bind_eq hm]
  rfl
theorem tf_extend {i : Nat} {x : PyData} {m : M EV} {s : S PyData} (h0 : t[i]? = some (.ow x)) (h : T VA t m s t1) (h2 : t1[i]? = some (.ow x)) :
    TF t (mDrop (mOn i (mExtend i m))) (s >>= fun d => extS x d) fun y => t1.set i (.ow y) := fun e g y g' f q => by
  obtain ⟨d, g1, q1, q2⟩ := S.inv q
  obtain ⟨d', e', h1, f1, _, hr⟩ := h e g d _ f q1
  obtain ⟨ds, es, rfl, rfl, c, rfl, rfl⟩ := extS_inv q2
  refine ⟨e'.set i (.own (.list (ds ++ es))), ?_, f1.set i (ow_ok rfl)⟩
  have hm : mOn i (mExtend i m) e g = .ok (.d .none) (e'.set i (.own (.list (ds ++ es)))) g1 := by
    unfold mOn
    rw [if_pos (own_at (ow_get f h0)).1]
    unfold mExtend
    rw [bind_eq h1]
    simp only [(own_at (ow_get f1 h2)).2, hr.1, c, if_true]
  unfold mDrop
  rw [bind_eq hm]
  rfl
theorem pop_eq {e : Env'} {i : Nat} {x d y : PyData} {g g' : G} (f : Fits t e) (h0 : t[i]? = some (.ow x)) (q : popS x g = some ((d, y), g')) : mPop i e g = .ok (.d d) (e.set i (.own y)) g' ∧ isObj y = true := by
  cases x <;> first | (cases q; done) | skip
  rename_i ds
  unfold popS at q
  dsimp only at q
  cases c : ds[ds.length - 1]? with
  | none => rw [c] at q; cases q
  | some z =>
    rw [c] at q
    obtain ⟨q1, rfl⟩ := S.inv0 q
    cases q1
    exact ⟨by simp only [mPop, (own_at (ow_get f h0)).2, c], rfl⟩
theorem tf_pop {i : Nat} {x : PyData} (h0 : t[i]? = some (.ow x)) : TF t (mDrop (mPop i)) (popS x >>= fun q => pure q.2) fun y => t.set i (.ow y) := fun e g y g' f q => by
  obtain ⟨⟨d, z⟩, g1, q1, q2⟩ := S.inv q
  obtain ⟨rfl, rfl⟩ := S.inv0 q2
  obtain ⟨h1, h2⟩ := pop_eq f h0 q1
  exact ⟨_, by unfold mDrop; rw [bind_eq h1]; rfl, f.set i (ow_ok h2)⟩
theorem tf_setPop {i j : Nat} {x : PyData} (h0 : t[i]? = some (.ow x)) : TF t (mSet j (mPop i)) (popS x) fun q => (t.set i (.ow q.2)).set j (.d q.1) := fun e g y g' f q => by
  obtain ⟨h1, h2⟩ := pop_eq (d := y.1) (y := y.2) f h0 q
  exact ⟨_, by unfold mSet; rw [bind_eq h1]; rfl, (f.set (s := .ow y.2) i (ow_ok h2)).setD j _⟩
theorem tf_asgP {α : Type} {p : Pat} {vs : List Nat} {un : PyData → Option α} {se : α → List SS → List SS} {m : M PyData} {s : S PyData} (h : T EQ t m s t1) (hp : PatOk p vs un se t1.length) : TF t (mAsgP p m) (s >>= fun x => S.opt (un x)) fun q => se q t1 := fun e g y g' f q => by
  obtain ⟨d, g1, q1, q2⟩ := S.inv q
  obtain ⟨q3, rfl⟩ := S.invO q2
  obtain ⟨d', e', h1, f1, _, rfl⟩ := h e g d _ f q1
  obtain ⟨e2, h2, f2, _⟩ := hp.run d' y t1 e' rfl q3 f1
  exact ⟨e2, by unfold mAsgP; rw [bind_eq h1]; simp only [h2], f2⟩
structure Sto (r : Env' → EV → PyData → Prop) (ss : PyData → SS) : Prop where
  ok : ∀ e ev x, r e ev x → ∃ s, slotOf ev = some s ∧ (ss x).ok s
theorem stoD : Sto HD SS.d := ⟨fun e ev x h => by cases h; exact ⟨_, rfl, rfl⟩⟩
theorem stoV : Sto HA SS.va := ⟨fun e ev x h => by
  rcases h with rfl | ⟨rfl, h⟩
  · exact ⟨_, rfl, .inl rfl⟩
  · exact ⟨_, rfl, .inr ⟨rfl, h⟩⟩⟩
theorem stoF : Sto FR SS.ow := ⟨fun e ev x h => by
  cases c : isObj x with
  | true => cases h.1 c; exact ⟨_, rfl, fun _ => rfl, fun z => (by rw [c] at z; cases z)⟩
  | false => cases h.2 c; exact ⟨_, rfl, fun z => (by rw [c] at z; cases z), fun _ => rfl⟩⟩
theorem tf_parF {r1 r2 : Env' → EV → PyData → Prop} {ss1 ss2 : PyData → SS} {i j : Nat} {ma mb : M EV} {a b : S PyData} (k1 : Sto r1 ss1) (k2 : Sto r2 ss2) (hr : ∀ e e' ev x, r1 e ev x → r1 e' ev x) (ha : T r1 t ma a t1) (hb : T r2 t1 mb b t2) :
    TF t (mParF i j ma mb) (a >>= fun x => b >>= fun y => pure (x, y)) fun q => (t2.set i (ss1 q.1)).set j (ss2 q.2) := fun e g y g' f q => by
  obtain ⟨x, g1, q1, q2⟩ := S.inv q
  obtain ⟨z, g2, q3, q4⟩ := S.inv q2
  obtain ⟨rfl, rfl⟩ := S.inv0 q4
  obtain ⟨u, e1, h1, f1, _, p1⟩ := ha e g x g1 f q1
  obtain ⟨w, e2, h2, f2, _, p2⟩ := hb e1 g1 z _ f1 q3
  obtain ⟨s1, n1, o1⟩ := k1.ok _ _ _ p1
  obtain ⟨s2, n2, o2⟩ := k2.ok _ _ _ p2
  exact ⟨_, by unfold mParF; rw [bind_eq h1, bind_eq h2]; simp only [n1, n2], (f2.set i o1).set j o2⟩
def two : List PyData → Option (PyData × PyData)
  | [a, b] => some (a, b)
  | _ => none
def three : List PyData → Option (PyData × PyData × PyData)
  | [a, b, c] => some (a, b, c)
  | _ => none
theorem tf_par {i j : Nat} {m : M (List EV)} {s : S (List PyData)} (h : T DS' t m s t1) : TF t (mPar i j m) (s >>= fun xs => S.opt (two xs)) fun q => (t1.set i (.d q.1)).set j (.d q.2) := fun e g y g' f q => by
  obtain ⟨d, g1, q1, q2⟩ := S.inv q
  obtain ⟨q3, rfl⟩ := S.invO q2
  obtain ⟨d', e', h1, f1, _, h3⟩ := h e g d _ f q1
  cases h3
  unfold two at q3
  split at q3
  · cases q3
    exact ⟨_, by unfold mPar; rw [bind_eq h1]; rfl, (f1.setD i _).setD j _⟩
  · cases q3
theorem tf_par3 {i j k : Nat} {m : M (List EV)} {s : S (List PyData)} (h : T DS' t m s t1) : TF t (mPar3 i j k m) (s >>= fun xs => S.opt (three xs)) fun q => ((t1.set i (.d q.1)).set j (.d q.2.1)).set k (.d q.2.2) := fun e g y g' f q => by
  obtain ⟨d, g1, q1, q2⟩ := S.inv q
  obtain ⟨q3, rfl⟩ := S.invO q2
  obtain ⟨d', e', h1, f1, _, h3⟩ := h e g d _ f q1
  cases h3
  unfold three at q3
  split at q3
  · cases q3
    exact ⟨_, by unfold mPar3; rw [bind_eq h1]; rfl, ((f1.setD i _).setD j _).setD k _⟩
  · cases q3
theorem tf_seq {a b : M Fl} {sa : S σ} {sb : σ → S τ} {ta : σ → List SS} {tb : τ → List SS} (ha : TF t a sa ta) (hb : ∀ v, TF (ta v) b (sb v) tb) : TF t (mSeqS a b) (sa >>= sb) tb := fun e g u g' f q => by
  obtain ⟨v, g1, q1, q2⟩ := S.inv q
  obtain ⟨e1, h1, f1⟩ := ha e g v g1 f q1
  obtain ⟨e2, h2, f2⟩ := hb v e1 g1 u g' f1 q2
  exact ⟨e2, by unfold mSeqS; rw [bind_eq h1]; exact h2, f2⟩
theorem tf_if {mc : M Bool} {a b : M Fl} {c : S Bool} {sa sb : S σ} {t' : σ → List SS} (hc : T EQ t mc c t1) (ha : TF t1 a sa t') (hb : TF t1 b sb t') : TF t (mIfS mc a b) (sIf c sa sb) t' := fun e g u g' f q => by
  obtain ⟨v, g1, q1, q2⟩ := S.inv q
  obtain ⟨v', e1, h1, f1, _, r⟩ := hc e g v g1 f q1
  cases r
  cases v with
  | true =>
    obtain ⟨e2, h2, f2⟩ := ha e1 g1 u g' f1 q2
    exact ⟨e2, by unfold mIfS; rw [bind_eq h1]; exact h2, f2⟩
  | false =>
    obtain ⟨e2, h2, f2⟩ := hb e1 g1 u g' f1 q2
    exact ⟨e2, by unfold mIfS; rw [bind_eq h1]; exact h2, f2⟩
def foldS {α σ : Type} (f : σ → α → S σ) : List α → σ → S σ
  | [], v => pure v
  | x :: xs, v => f v x >>= foldS f xs
theorem tf_for {α : Type} {p : Pat} {vs : List Nat} {un : PyData → Option α} {se : α → List SS → List SS} {mi : M (List PyData)} {mb : M Fl} {si : S (List PyData)} {tl : σ → List SS} {sb : σ → α → S σ} {n : Nat} (v0 : σ)
    (hi : T EQ t mi si t1) (l0 : LE t1 (tl v0)) (hn : ∀ v, (tl v).length = n) (hp : PatOk p vs un se n) (hb : ∀ v q, TF (se q (tl v)) mb (sb v q) tl) :
    TF t (mFor p mi mb) (si >>= fun xs => foldS (fun v x => S.opt (un x) >>= sb v) xs v0) tl := fun e g u g' f q => by
  obtain ⟨xs, g1, q1, q2⟩ := S.inv q
  obtain ⟨xs', e1, h1, f1, _, r⟩ := hi e g xs g1 f q1
  cases r
  have main : ∀ (xs : List PyData) (v : σ) (e : Env') (g g' : G), Fits (tl v) e → foldS (fun v x => S.opt (un x) >>= sb v) xs v g = some (u, g') → ∃ e', forD p mb xs e g = .ok .nx e' g' ∧ Fits (tl u) e' := by
    intro xs
    induction xs with
    | nil =>
      intro v e g g' f q
      obtain ⟨rfl, rfl⟩ := S.inv0 q
      exact ⟨e, rfl, f⟩
    | cons x xs ih =>
      intro v e g g' f q
      obtain ⟨v', g1, q1, q2⟩ := S.inv q
      obtain ⟨a, g2, q3, q4⟩ := S.inv q1
      obtain ⟨q5, rfl⟩ := S.invO q3
      obtain ⟨e1, h1, f1, _⟩ := hp.run x a (tl v) e (hn v) q5 f
      obtain ⟨e2, h2, f2⟩ := hb v a e1 _ v' g1 f1 q4
      obtain ⟨e3, h3, f3⟩ := ih v' e2 g1 g' f2 q2
      refine ⟨e3, ?_, f3⟩
      unfold forD
      rw [h1]
      dsimp only
      rw [bind_eq h2]
      exact h3
  obtain ⟨e2, h2, f2⟩ := main xs v0 e1 g1 g' (l0.fits f1) q2
  exact ⟨e2, by unfold mFor; rw [bind_eq h1]; exact h2, f2⟩
def whileS {σ : Type} (c : σ → S Bool) (b : σ → S σ) : Nat → σ → S σ
  | 0, _ => S.fail
  | n + 1, v => c v >>= fun x => if x then b v >>= whileS c b n else pure v
theorem tf_while {mt : M Bool} {mb : M Fl} {tl : σ → List SS} {c : σ → S Bool} {b : σ → S σ} {k : Nat} (v0 : σ) (l0 : LE t (tl v0)) (hc : ∀ v, T EQ (tl v) mt (c v) (tl v)) (hb : ∀ v, TF (tl v) mb (b v) tl) :
    TF t (whileD mt mb k) (whileS c b k v0) tl := fun e g u g' f q => by
  have main : ∀ (k : Nat) (v : σ) (e : Env') (g g' : G), Fits (tl v) e → whileS c b k v g = some (u, g') → ∃ e', whileD mt mb k e g = .ok .nx e' g' ∧ Fits (tl u) e' := by
    intro k
    induction k with
    | zero => intro v e g g' f q; cases q
    | succ k ih =>
      intro v e g g' f q
      obtain ⟨x, g1, q1, q2⟩ := S.inv q
      obtain ⟨x', e1, h1, f1, _, r⟩ := hc v e g x g1 f q1
      cases r
      cases x with
      | true =>
        obtain ⟨v', g2, q3, q4⟩ := S.inv (m := b v) (f := whileS c b k) q2
        obtain ⟨e2, h2, f2⟩ := hb v e1 g1 v' g2 f1 q3
        obtain ⟨e3, h3, f3⟩ := ih v' e2 g2 g' f2 q4
        refine ⟨e3, ?_, f3⟩
        unfold whileD
        rw [bind_eq h1, if_pos rfl, bind_eq h2]
        exact h3
      | false =>
        obtain ⟨rfl, rfl⟩ := S.inv0 q2
        refine ⟨e1, ?_, f1⟩
        unfold whileD
        rw [bind_eq h1, if_neg Bool.false_ne_true]
        rfl
  exact main k v0 e g g' (l0.fits f) q
/-! giving back -/
theorem tr_ret {m : M EV} {s : S PyData} (h : T HA t m s t1) : TRt t (mRet m) s := fun e g x g' f q => by
  obtain ⟨ev, e', h1, h2, _, h3⟩ := h e g x g' f q
  refine ⟨ev, e', ?_, h3⟩
  unfold mRet
  rw [bind_eq h1]
  rcases h3 with rfl | ⟨rfl, h4⟩ <;> rfl
theorem tr_d {i : Nat} {x : PyData} (h : t[i]? = some (.d x)) : TRt t (mRetV i) (pure x) := fun e g y g' f q => by
  obtain ⟨rfl, rfl⟩ := S.inv0 q
  obtain ⟨s, h1, h2⟩ := f.get h
  cases (show s = .d x from h2)
  exact ⟨.d x, e, by simp only [mRetV, h1], .inl rfl⟩
theorem tr_o {i : Nat} {x : PyData} (h : t[i]? = some (.ow x)) : TRt t (mRetV i) (pure x) := fun e g y g' f q => by
  obtain ⟨rfl, rfl⟩ := S.inv0 q
  obtain ⟨s, h1, h2⟩ := LE1 h f
  rcases h2 with rfl | ⟨rfl, h2⟩
  · exact ⟨.d x, e, by simp only [mRetV, h1], .inl rfl⟩
  · exact ⟨.fr x, e.set i .un, by simp only [mRetV, h1], .inr ⟨rfl, h2⟩⟩
theorem tr_v {i : Nat} {x : PyData} (h : t[i]? = some (.va x)) : TRt t (mRetV i) (pure x) := fun e g y g' f q => by
  obtain ⟨rfl, rfl⟩ := S.inv0 q
  obtain ⟨s, h1, h2⟩ := f.get h
  rcases h2 with rfl | ⟨rfl, h2⟩
  · exact ⟨.d x, e, by simp only [mRetV, h1], .inl rfl⟩
  · exact ⟨.fr x, e.set i .un, by simp only [mRetV, h1], .inr ⟨rfl, h2⟩⟩
theorem tr_n : TRt t (M.pure (.rt (.d .none))) (pure .none) := fun e g y g' f q => by
  obtain ⟨rfl, rfl⟩ := S.inv0 q
  exact ⟨_, e, rfl, .inl rfl⟩
theorem tr_bad {m : M Fl} : TRt t m S.fail := fun e g y g' f q => by cases q
theorem tr_seq {a b : M Fl} {sa : S σ} {sb : σ → S PyData} {ta : σ → List SS} (ha : TF t a sa ta) (hb : ∀ v, TRt (ta v) b (sb v)) : TRt t (mSeqS a b) (sa >>= sb) := fun e g u g' f q => by
  obtain ⟨v, g1, q1, q2⟩ := S.inv q
  obtain ⟨e1, h1, f1⟩ := ha e g v g1 f q1
  obtain ⟨ev, e2, h2, f2⟩ := hb v e1 g1 u g' f1 q2
  exact ⟨ev, e2, by unfold mSeqS; rw [bind_eq h1]; exact h2, f2⟩
theorem tr_if {mc : M Bool} {a b : M Fl} {c : S Bool} {sa sb : S PyData} (hc : T EQ t mc c t1) (ha : TRt t1 a sa) (hb : TRt t1 b sb) : TRt t (mIfS mc a b) (sIf c sa sb) := fun e g u g' f q => by
  obtain ⟨v, g1, q1, q2⟩ := S.inv q
  obtain ⟨v', e1, h1, f1, _, r⟩ := hc e g v g1 f q1
  cases r
  cases v with
  | true =>
    obtain ⟨ev, e2, h2, f2⟩ := ha e1 g1 u g' f1 q2
    exact ⟨ev, e2, by unfold mIfS; rw [bind_eq h1]; exact h2, f2⟩
  | false =>
    obtain ⟨ev, e2, h2, f2⟩ := hb e1 g1 u g' f1 q2
    exact ⟨ev, e2, by unfold mIfS; rw [bind_eq h1]; exact h2, f2⟩
theorem seq_rt {a b : M Fl} {e e' : Env'} {g g' : G} {ev : EV} (h : a e g = .ok (.rt ev) e' g') : mSeqS a b e g = .ok (.rt ev) e' g' := by
  unfold mSeqS
  rw [bind_eq h]
  rfl
/-- an if that gives back, with the rest -/
theorem tr_if1 {mc : M Bool} {a r : M Fl} {c : S Bool} {sa sr : S PyData} (hc : T EQ t mc c t1) (ha : TRt t1 a sa) (hr : TRt t1 r sr) : TRt t (mSeqS (mIfS mc a mNx) r) (sIf c sa sr) := fun e g u g' f q => by
  obtain ⟨v, g1, q1, q2⟩ := S.inv q
  obtain ⟨v', e1, h1, f1, _, rr⟩ := hc e g v g1 f q1
  cases rr
  cases v with
  | true =>
    obtain ⟨ev, e2, h2, f2⟩ := ha e1 g1 u g' f1 q2
    exact ⟨ev, e2, seq_rt (by unfold mIfS; rw [bind_eq h1]; exact h2), f2⟩
  | false =>
    obtain ⟨ev, e2, h2, f2⟩ := hr e1 g1 u g' f1 q2
    have hn : mIfS mc a mNx e g = .ok .nx e1 g1 := by unfold mIfS; rw [bind_eq h1]; rfl
    exact ⟨ev, e2, by unfold mSeqS; rw [bind_eq hn]; exact h2, f2⟩
theorem tr_if1e {mc : M Bool} {a b r : M Fl} {c : S Bool} {sa : S PyData} {sb : S σ} {sr : σ → S PyData} {tb : σ → List SS} (hc : T EQ t mc c t1) (ha : TRt t1 a sa) (hb : TF t1 b sb tb) (hr : ∀ v, TRt (tb v) r (sr v)) : TRt t (mSeqS (mIfS mc a b) r) (sIf c sa (sb >>= sr)) := fun e g u g' f q => by
  obtain ⟨v, g1, q1, q2⟩ := S.inv q
  obtain ⟨v', e1, h1, f1, _, rr⟩ := hc e g v g1 f q1
  cases rr
  cases v with
  | true =>
    obtain ⟨ev, e2, h2, f2⟩ := ha e1 g1 u g' f1 q2
    exact ⟨ev, e2, seq_rt (by unfold mIfS; rw [bind_eq h1]; exact h2), f2⟩
  | false =>
    obtain ⟨w, g2, q3, q4⟩ := S.inv (m := sb) (f := sr) q2
    obtain ⟨e2, h2, f2⟩ := hb e1 g1 w g2 f1 q3
    obtain ⟨ev, e3, h3, f3⟩ := hr w e2 g2 u g' f2 q4
    have hn : mIfS mc a b e g = .ok .nx e2 g2 := by unfold mIfS; rw [bind_eq h1]; exact h2
    exact ⟨ev, e3, by unfold mSeqS; rw [bind_eq hn]; exact h3, f3⟩
def outR {κ σ : Type} (k : σ → S PyData) : Out κ σ → S PyData
  | .ret x => pure x
  | .nxt v => k v
  | _ => S.fail
theorem tr_out {a r : M Fl} {sa : S (Out κ σ)} {sr : σ → S PyData} {tl : κ → List SS} {tn : σ → List SS} (ha : TB t a sa tl tn) (hr : ∀ v, TRt (tn v) r (sr v)) : TRt t (mSeqS a r) (sa >>= outR sr) := fun e g u g' f q => by
  obtain ⟨o, g1, q1, q2⟩ := S.inv q
  have h := ha e g o g1 f q1
  cases o with
  | ret x =>
    obtain ⟨ev, e', h1, h2⟩ := h
    obtain ⟨rfl, rfl⟩ := S.inv0 q2
    exact ⟨ev, e', seq_rt h1, h2⟩
  | nxt v =>
    obtain ⟨e1, h1, f1⟩ := h
    obtain ⟨ev, e2, h2, f2⟩ := hr v e1 g1 u g' f1 q2
    exact ⟨ev, e2, by unfold mSeqS; rw [bind_eq h1]; exact h2, f2⟩
  | brk v => cases q2
  | ctn v => cases q2
/-! blocks with ways out -/
variable {tl : κ → List SS} {tn : σ → List SS}
theorem tb_ret {m : M Fl} {s : S PyData} (h : TRt t m s) : TB t m (s >>= fun x => pure (.ret x)) tl tn := fun e g o g' f q => by
  obtain ⟨x, g1, q1, q2⟩ := S.inv q
  obtain ⟨rfl, rfl⟩ := S.inv0 q2
  exact h e g x _ f q1
theorem tb_brk {v : κ} (l : LE t (tl v)) : TB t (M.pure .bk) (pure (.brk v)) tl tn := fun e g o g' f q => by
  obtain ⟨rfl, rfl⟩ := S.inv0 q
  exact ⟨e, rfl, l.fits f⟩
theorem tb_ctn {v : κ} (l : LE t (tl v)) : TB t (M.pure .ct) (pure (.ctn v)) tl tn := fun e g o g' f q => by
  obtain ⟨rfl, rfl⟩ := S.inv0 q
  exact ⟨e, rfl, l.fits f⟩
theorem tb_nx {v : σ} (l : LE t (tn v)) : TB t mNx (pure (.nxt v)) tl tn := fun e g o g' f q => by
  obtain ⟨rfl, rfl⟩ := S.inv0 q
  exact ⟨e, rfl, l.fits f⟩
theorem tb_f {m : M Fl} {s : S τ} {t' : τ → List SS} (k : τ → σ) (h : TF t m s t') (l : ∀ v, LE (t' v) (tn (k v))) : TB t m (s >>= fun v => pure (.nxt (k v))) tl tn := fun e g o g' f q => by
  obtain ⟨v, g1, q1, q2⟩ := S.inv q
  obtain ⟨rfl, rfl⟩ := S.inv0 q2
  obtain ⟨e', h1, h2⟩ := h e g v _ f q1
  exact ⟨e', h1, (l v).fits h2⟩
theorem OutOk.seq {a b : M Fl} {e e1 : Env'} {g g1 g' : G} {o : Out κ σ} (h : a e g = .ok .nx e1 g1) (k : OutOk tl tn g' o (b e1 g1)) : OutOk tl tn g' o (mSeqS a b e g) := by
  have : mSeqS a b e g = b e1 g1 := by unfold mSeqS; rw [bind_eq h]
  rw [this]
  exact k
theorem tb_seq {a b : M Fl} {sa : S τ} {sb : τ → S (Out κ σ)} {ta : τ → List SS} (ha : TF t a sa ta) (hb : ∀ v, TB (ta v) b (sb v) tl tn) : TB t (mSeqS a b) (sa >>= sb) tl tn := fun e g o g' f q => by
  obtain ⟨v, g1, q1, q2⟩ := S.inv q
  obtain ⟨e1, h1, f1⟩ := ha e g v g1 f q1
  exact OutOk.seq h1 (hb v e1 g1 o g' f1 q2)
theorem tb_if {mc : M Bool} {a b : M Fl} {c : S Bool} {sa sb : S (Out κ σ)} (hc : T EQ t mc c t1) (ha : TB t1 a sa tl tn) (hb : TB t1 b sb tl tn) : TB t (mIfS mc a b) (sIf c sa sb) tl tn := fun e g o g' f q => by
  obtain ⟨v, g1, q1, q2⟩ := S.inv q
  obtain ⟨v', e1, h1, f1, _, r⟩ := hc e g v g1 f q1
  cases r
  cases v with
  | true =>
    have := ha e1 g1 o g' f1 q2
    have z : mIfS mc a b e g = a e1 g1 := by unfold mIfS; rw [bind_eq h1]; rfl
    rw [z]; exact this
  | false =>
    have := hb e1 g1 o g' f1 q2
    have z : mIfS mc a b e g = b e1 g1 := by unfold mIfS; rw [bind_eq h1]; rfl
    rw [z]; exact this
theorem tb_if1 {mc : M Bool} {a r : M Fl} {c : S Bool} {sa : S PyData} {sr : S (Out κ σ)} (hc : T EQ t mc c t1) (ha : TRt t1 a sa) (hr : TB t1 r sr tl tn) : TB t (mSeqS (mIfS mc a mNx) r) (sIf c (sa >>= fun x => pure (.ret x)) sr) tl tn := fun e g o g' f q => by
  obtain ⟨v, g1, q1, q2⟩ := S.inv q
  obtain ⟨v', e1, h1, f1, _, rr⟩ := hc e g v g1 f q1
  cases rr
  cases v with
  | true =>
    obtain ⟨x, g2, q3, q4⟩ := S.inv (m := sa) (f := fun x => (pure (Out.ret x) : S (Out κ σ))) q2
    obtain ⟨rfl, rfl⟩ := S.inv0 q4
    obtain ⟨ev, e2, h2, f2⟩ := ha e1 g1 x _ f1 q3
    exact ⟨ev, e2, seq_rt (by unfold mIfS; rw [bind_eq h1]; exact h2), f2⟩
  | false =>
    have hn : mIfS mc a mNx e g = .ok .nx e1 g1 := by unfold mIfS; rw [bind_eq h1]; rfl
    exact OutOk.seq hn (hr e1 g1 o g' f1 q2)
/-- an if that goes on with the next lap, or ends the loop -/
theorem tb_if1c {mc : M Bool} {r : M Fl} {c : S Bool} {v : κ} {sr : S (Out κ σ)} (hc : T EQ t mc c t1) (l : LE t1 (tl v)) (hr : TB t1 r sr tl tn) : TB t (mSeqS (mIfS mc (M.pure .ct) mNx) r) (sIf c (pure (.ctn v)) sr) tl tn := fun e g o g' f q => by
  obtain ⟨w, g1, q1, q2⟩ := S.inv q
  obtain ⟨v', e1, h1, f1, _, rr⟩ := hc e g w g1 f q1
  cases rr
  cases w with
  | true =>
    obtain ⟨rfl, rfl⟩ := S.inv0 q2
    refine ⟨e1, ?_, l.fits f1⟩
    have hn : mIfS mc (M.pure .ct) mNx e g = .ok .ct e1 g1 := by unfold mIfS; rw [bind_eq h1]; rfl
    unfold mSeqS; rw [bind_eq hn]; rfl
  | false =>
    have hn : mIfS mc (M.pure .ct) mNx e g = .ok .nx e1 g1 := by unfold mIfS; rw [bind_eq h1]; rfl
    exact OutOk.seq hn (hr e1 g1 o g' f1 q2)
theorem tb_if1b {mc : M Bool} {r : M Fl} {c : S Bool} {v : κ} {sr : S (Out κ σ)} (hc : T EQ t mc c t1) (l : LE t1 (tl v)) (hr : TB t1 r sr tl tn) : TB t (mSeqS (mIfS mc (M.pure .bk) mNx) r) (sIf c (pure (.brk v)) sr) tl tn := fun e g o g' f q => by
  obtain ⟨w, g1, q1, q2⟩ := S.inv q
  obtain ⟨v', e1, h1, f1, _, rr⟩ := hc e g w g1 f q1
  cases rr
  cases w with
  | true =>
    obtain ⟨rfl, rfl⟩ := S.inv0 q2
    refine ⟨e1, ?_, l.fits f1⟩
    have hn : mIfS mc (M.pure .bk) mNx e g = .ok .bk e1 g1 := by unfold mIfS; rw [bind_eq h1]; rfl
    unfold mSeqS; rw [bind_eq hn]; rfl
  | false =>
    have hn : mIfS mc (M.pure .bk) mNx e g = .ok .nx e1 g1 := by unfold mIfS; rw [bind_eq h1]; rfl
    exact OutOk.seq hn (hr e1 g1 o g' f1 q2)
def outB {κ σ τ : Type} (k : σ → S (Out κ τ)) : Out κ σ → S (Out κ τ)
  | .ret x => pure (.ret x)
  | .brk v => pure (.brk v)
  | .ctn v => pure (.ctn v)
  | .nxt v => k v
theorem tb_seqB {a b : M Fl} {sa : S (Out κ τ)} {sb : τ → S (Out κ σ)} {ta : τ → List SS} (ha : TB t a sa tl ta) (hb : ∀ v, TB (ta v) b (sb v) tl tn) : TB t (mSeqS a b) (sa >>= outB sb) tl tn := fun e g o g' f q => by
  obtain ⟨w, g1, q1, q2⟩ := S.inv q
  have h := ha e g w g1 f q1
  cases w with
  | ret x =>
    obtain ⟨ev, e', h1, h2⟩ := h
    obtain ⟨rfl, rfl⟩ := S.inv0 q2
    exact ⟨ev, e', seq_rt h1, h2⟩
  | nxt v =>
    obtain ⟨e1, h1, f1⟩ := h
    exact OutOk.seq h1 (hb v e1 g1 o g' f1 q2)
  | brk v =>
    obtain ⟨e1, h1, f1⟩ := h
    obtain ⟨rfl, rfl⟩ := S.inv0 q2
    exact ⟨e1, by unfold mSeqS; rw [bind_eq h1]; rfl, f1⟩
  | ctn v =>
    obtain ⟨e1, h1, f1⟩ := h
    obtain ⟨rfl, rfl⟩ := S.inv0 q2
    exact ⟨e1, by unfold mSeqS; rw [bind_eq h1]; rfl, f1⟩
def forO {α σ κ : Type} (f : σ → α → S (Out σ σ)) : List α → σ → S (Out κ σ)
  | [], v => pure (.nxt v)
  | x :: xs, v => f v x >>= fun o => match o with
    | .ret r => pure (.ret r)
    | .brk v => pure (.nxt v)
    | .ctn v => forO f xs v
    | .nxt v => forO f xs v
theorem tb_for {α : Type} {p : Pat} {vs : List Nat} {un : PyData → Option α} {se : α → List SS → List SS} {mi : M (List PyData)} {mb : M Fl} {si : S (List PyData)} {tn : σ → List SS} {sb : σ → α → S (Out σ σ)} {n : Nat} (v0 : σ)
    (hi : T EQ t mi si t1) (l0 : LE t1 (tn v0)) (hn : ∀ v, (tn v).length = n) (hp : PatOk p vs un se n) (hb : ∀ v q, TB (se q (tn v)) mb (sb v q) tn tn) :
    TB t (mFor p mi mb) (si >>= fun xs => forO (κ := κ) (fun v x => S.opt (un x) >>= sb v) xs v0) tl tn := fun e g u g' f q => by
  obtain ⟨xs, g1, q1, q2⟩ := S.inv q
  obtain ⟨xs', e1, h1, f1, _, r⟩ := hi e g xs g1 f q1
  cases r
  have main : ∀ (xs : List PyData) (v : σ) (e : Env') (g g' : G), Fits (tn v) e → forO (κ := κ) (fun v x => S.opt (un x) >>= sb v) xs v g = some (u, g') → OutOk tl tn g' u (forD p mb xs e g) := by
    intro xs
    induction xs with
    | nil =>
      intro v e g g' f q
      obtain ⟨rfl, rfl⟩ := S.inv0 q
      exact ⟨e, rfl, f⟩
    | cons x xs ih =>
      intro v e g g' f q
      obtain ⟨w, g1, q1, q2⟩ := S.inv q
      obtain ⟨a, g2, q3, q4⟩ := S.inv q1
      obtain ⟨q5, rfl⟩ := S.invO q3
      obtain ⟨e1, h1, f1, _⟩ := hp.run x a (tn v) e (hn v) q5 f
      have hb := hb v a e1 g w g1 f1 q4
      have step : ∀ {fl : Fl} {e2 : Env'} {g2' : G}, mb e1 g = .ok fl e2 g2' → forD p mb (x :: xs) e g = (match fl with
          | .nx => forD p mb xs
          | .ct => forD p mb xs
          | .bk => mNx
          | .rt v => M.pure (.rt v)) e2 g2' := fun {fl e2 g2'} h2 => by
        conv => lhs; unfold forD
        rw [h1]
        dsimp only
        rw [bind_eq h2]
        all_goals (cases fl <;> rfl)
      cases w with
      | ret x =>
        obtain ⟨ev, e2, h2, h3⟩ := hb
        obtain ⟨rfl, rfl⟩ := S.inv0 q2
        exact ⟨ev, e2, step h2, h3⟩
      | brk v' =>
        obtain ⟨e2, h2, f2⟩ := hb
        obtain ⟨rfl, rfl⟩ := S.inv0 q2
        exact ⟨e2, step h2, f2⟩
      | ctn v' =>
        obtain ⟨e2, h2, f2⟩ := hb
        rw [step h2]
        exact ih v' e2 g1 g' f2 q2
      | nxt v' =>
        obtain ⟨e2, h2, f2⟩ := hb
        rw [step h2]
        exact ih v' e2 g1 g' f2 q2
  have := main xs v0 e1 g1 g' (l0.fits f1) q2
  have z : mFor p mi mb e g = forD p mb xs e1 g1 := by unfold mFor; rw [bind_eq h1]
  rw [z]
  exact this
def whileO {σ κ : Type} (c : σ → S Bool) (b : σ → S (Out σ σ)) : Nat → σ → S (Out κ σ)
  | 0, _ => S.fail
  | n + 1, v => c v >>= fun x => if x then b v >>= fun o => match o with
      | .ret r => pure (.ret r)
      | .brk v => pure (.nxt v)
      | .ctn v => whileO c b n v
      | .nxt v => whileO c b n v
    else pure (.nxt v)
/-! ### defs -/
def FnT (fm : FM) (evs : List EV) (s : S PyData) : Prop := ∀ g x g', s g = some (x, g') → ∃ ev, fm evs g = .ok ev [] g' ∧ HA [] ev x
theorem fn_ok {n : Nat} {bd : M Fl} {evs : List EV} {s : S PyData} (h : TRt t bd s) (hf : Fits t (startE n evs)) : FnT (bodyRun n bd) evs s := fun g x g' q => by
  obtain ⟨ev, e', h1, h2⟩ := h _ g x g' hf q
  refine ⟨ev, ?_, h2⟩
  unfold bodyRun
  rw [h1]
  rcases h2 with rfl | ⟨rfl, _⟩ <;> rfl
theorem fn_nx {n : Nat} {bd : M Fl} {evs : List EV} {s : S σ} {t' : σ → List SS} (h : TF t bd s t') (hf : Fits t (startE n evs)) : FnT (bodyRun n bd) evs (s >>= fun _ => pure .none) := fun g x g' q => by
  obtain ⟨v, g1, q1, q2⟩ := S.inv q
  obtain ⟨rfl, rfl⟩ := S.inv0 q2
  obtain ⟨e', h1, h2⟩ := h _ g v _ hf q1
  refine ⟨.d .none, ?_, .inl rfl⟩
  unfold bodyRun
  rw [h1]
theorem fn_bad {evs : List EV} {fm : FM} : FnT fm evs S.fail := fun g x g' q => by cases q
/-- of a def's promise itself -/
def ofFM (fm : FM) (evs : List EV) : S PyData := fun g => match fm evs g with
  | .ok (.d x) [] g' => some (x, g')
  | .ok (.fr x) [] g' => if isObj x then some (x, g') else none
  | _ => none
theorem fn_of {fm : FM} {evs : List EV} : FnT fm evs (ofFM fm evs) := fun g x g' q => by
  unfold ofFM at q
  split at q
  · rename_i h; cases q; exact ⟨_, h, .inl rfl⟩
  · rename_i h
    split at q
    · rename_i c; cases q; exact ⟨_, h, .inr ⟨rfl, c⟩⟩
    · cases q
  · cases q
def AS (n : Nat) (_ : Env') (evs evs' : List EV) : Prop := evs = evs' ∧ evs.all isArg = true ∧ evs.length = n
theorem te_callG {n : Nat} {fm : FM} {m : M (List EV)} {sa : S (List EV)} {f : List EV → S PyData} (h : T (AS n) t m sa t1) (hf : ∀ evs, FnT fm evs (f evs)) : T HA t (mCall n fm m) (sa >>= f) t1 := fun e g x g' ff q => by
  obtain ⟨evs, g1, q1, q2⟩ := S.inv q
  obtain ⟨evs', e1, h1, f1, k1, rfl, r2, r3⟩ := h e g evs g1 ff q1
  obtain ⟨ev, h2, h3⟩ := hf evs' g1 x g' q2
  exact ⟨ev, e1, mCall_ok h1 r2 r3 h2, f1, k1, h3⟩
theorem tc_nil : T (AS 0) t mNil (pure []) t := fun e g b g' f q => by
  obtain ⟨rfl, rfl⟩ := S.inv0 q
  exact ⟨[], e, rfl, f, .refl, rfl, rfl, rfl⟩
theorem tc_cons {n : Nat} {ma : M EV} {mr : M (List EV)} {a : S PyData} {r : S (List EV)} (ha : T HD t ma a t1) (hr : T (AS n) t1 mr r t2) : T (AS (n + 1)) t (mCons ma mr) (a >>= fun x => r >>= fun es => pure (.d x :: es)) t2 := by
  intro e g z g' f q
  obtain ⟨x, g1, q1, q⟩ := S.inv q
  obtain ⟨y, g2, q2, q⟩ := S.inv q
  obtain ⟨rfl, rfl⟩ := S.inv0 q
  obtain ⟨u, e1, h1, f1, k1, r1⟩ := ha e g x g1 f q1
  obtain ⟨v, e2, h2, f2, k2, rfl, r3, r4⟩ := hr e1 g1 y g2 f1 q2
  cases r1
  exact ⟨_, e2, by unfold mCons; rw [bind_eq h1, bind_eq h2]; rfl, f2, k1.trans k2, rfl, by simpa [isArg] using r3, by simp [r4]⟩
theorem tc_src {n i : Nat} {b : Bool} {mr : M (List EV)} {r : S (List EV)} (h : t[i]? = some (.src b)) (hr : T (AS n) t mr r t2) : T (AS (n + 1)) t (mCons (mArg (mVar i)) mr) (r >>= fun es => pure (.src b :: es)) t2 := by
  intro e g z g' f q
  obtain ⟨y, g2, q2, q⟩ := S.inv q
  obtain ⟨rfl, rfl⟩ := S.inv0 q
  obtain ⟨s, h1, h2⟩ := f.get h
  cases (show s = .src b from h2)
  obtain ⟨v, e2, h3, f2, k2, rfl, r3, r4⟩ := hr e g y g2 f q2
  have hv : mArg (mVar i) e g = .ok (.src b) e g := by
    unfold mArg mVar
    simp only [M.bind, h1]
    rfl
  exact ⟨_, e2, by unfold mCons; rw [bind_eq hv, bind_eq h3]; rfl, f2, k2, rfl, by simpa [isArg] using r3, by simp [r4]⟩
theorem T.eq {α β : Type} {r : Env' → α → β → Prop} {m : M α} {s s' : S β} (h : T r t m s t1) (e : s = s') : T r t m s' t1 := e ▸ h
theorem te_c0 {fm : FM} {f : S PyData} (h : FnT fm [] f) : T HA t (mCall 0 fm mNil) f t :=
  (te_callG (f := fun evs => if evs = [] then f else S.fail) tc_nil fun evs => by
    by_cases c : evs = []
    · subst c; exact h
    · rw [if_neg c]; exact fn_bad).eq (by simp)
end
theorem te_c1 {t t1 : List SS} {fm : FM} {m0 : M EV} {s0 : S PyData} {f : PyData → S PyData} (h : ∀ x0, FnT fm [.d x0] (f x0)) (h0 : T HD t m0 s0 t1) :
    T HA t (mCall 1 fm (mCons m0 mNil)) (s0 >>= fun x0 => f x0) t1 :=
  (te_callG (f := fun evs => match evs with
      | [.d x0] =>  f x0
      | _ => S.fail) (tc_cons h0 tc_nil) fun evs => by
    split
    · exact h _
    · exact fn_bad).eq (by simp)
theorem te_s1 {t t1 : List SS} {fm : FM} {m0 : M EV} {s0 : S PyData} {i : Nat} {b : Bool} {f : PyData → S PyData} (h : ∀ x0, FnT fm [.src b, .d x0] (f x0)) (hs : t[i]? = some (.src b)) (h0 : T HD t m0 s0 t1) :
    T HA t (mCall 2 fm (mCons (mArg (mVar i)) (mCons m0 mNil))) (s0 >>= fun x0 => f x0) t1 :=
  (te_callG (f := fun evs => match evs with
      | [.src b2, .d x0] => if b2 = b then f x0 else S.fail
      | _ => S.fail) (tc_src hs (tc_cons h0 tc_nil)) fun evs => by
    split
    · split
      · rename_i c; subst c; exact h _
      · exact fn_bad
    · exact fn_bad).eq (by simp)
theorem te_c2 {t t1 t2 : List SS} {fm : FM} {m0 m1 : M EV} {s0 s1 : S PyData} {f : PyData → PyData → S PyData} (h : ∀ x0 x1, FnT fm [.d x0, .d x1] (f x0 x1)) (h0 : T HD t m0 s0 t1) (h1 : T HD t1 m1 s1 t2) :
    T HA t (mCall 2 fm (mCons m0 (mCons m1 mNil))) (s0 >>= fun x0 => s1 >>= fun x1 => f x0 x1) t2 :=
  (te_callG (f := fun evs => match evs with
      | [.d x0, .d x1] =>  f x0 x1
      | _ => S.fail) (tc_cons h0 (tc_cons h1 tc_nil)) fun evs => by
    split
    · exact h _ _
    · exact fn_bad).eq (by simp)
theorem te_s2 {t t1 t2 : List SS} {fm : FM} {m0 m1 : M EV} {s0 s1 : S PyData} {i : Nat} {b : Bool} {f : PyData → PyData → S PyData} (h : ∀ x0 x1, FnT fm [.src b, .d x0, .d x1] (f x0 x1)) (hs : t[i]? = some (.src b)) (h0 : T HD t m0 s0 t1) (h1 : T HD t1 m1 s1 t2) :
    T HA t (mCall 3 fm (mCons (mArg (mVar i)) (mCons m0 (mCons m1 mNil)))) (s0 >>= fun x0 => s1 >>= fun x1 => f x0 x1) t2 :=
  (te_callG (f := fun evs => match evs with
      | [.src b2, .d x0, .d x1] => if b2 = b then f x0 x1 else S.fail
      | _ => S.fail) (tc_src hs (tc_cons h0 (tc_cons h1 tc_nil))) fun evs => by
    split
    · split
      · rename_i c; subst c; exact h _ _
      · exact fn_bad
    · exact fn_bad).eq (by simp)
theorem te_c3 {t t1 t2 t3 : List SS} {fm : FM} {m0 m1 m2 : M EV} {s0 s1 s2 : S PyData} {f : PyData → PyData → PyData → S PyData} (h : ∀ x0 x1 x2, FnT fm [.d x0, .d x1, .d x2] (f x0 x1 x2)) (h0 : T HD t m0 s0 t1) (h1 : T HD t1 m1 s1 t2) (h2 : T HD t2 m2 s2 t3) :
    T HA t (mCall 3 fm (mCons m0 (mCons m1 (mCons m2 mNil)))) (s0 >>= fun x0 => s1 >>= fun x1 => s2 >>= fun x2 => f x0 x1 x2) t3 :=
  (te_callG (f := fun evs => match evs with
      | [.d x0, .d x1, .d x2] =>  f x0 x1 x2
      | _ => S.fail) (tc_cons h0 (tc_cons h1 (tc_cons h2 tc_nil))) fun evs => by
    split
    · exact h _ _ _
    · exact fn_bad).eq (by simp)
theorem te_s3 {t t1 t2 t3 : List SS} {fm : FM} {m0 m1 m2 : M EV} {s0 s1 s2 : S PyData} {i : Nat} {b : Bool} {f : PyData → PyData → PyData → S PyData} (h : ∀ x0 x1 x2, FnT fm [.src b, .d x0, .d x1, .d x2] (f x0 x1 x2)) (hs : t[i]? = some (.src b)) (h0 : T HD t m0 s0 t1) (h1 : T HD t1 m1 s1 t2) (h2 : T HD t2 m2 s2 t3) :
    T HA t (mCall 4 fm (mCons (mArg (mVar i)) (mCons m0 (mCons m1 (mCons m2 mNil))))) (s0 >>= fun x0 => s1 >>= fun x1 => s2 >>= fun x2 => f x0 x1 x2) t3 :=
  (te_callG (f := fun evs => match evs with
      | [.src b2, .d x0, .d x1, .d x2] => if b2 = b then f x0 x1 x2 else S.fail
      | _ => S.fail) (tc_src hs (tc_cons h0 (tc_cons h1 (tc_cons h2 tc_nil)))) fun evs => by
    split
    · split
      · rename_i c; subst c; exact h _ _ _
      · exact fn_bad
    · exact fn_bad).eq (by simp)
theorem te_c4 {t t1 t2 t3 t4 : List SS} {fm : FM} {m0 m1 m2 m3 : M EV} {s0 s1 s2 s3 : S PyData} {f : PyData → PyData → PyData → PyData → S PyData} (h : ∀ x0 x1 x2 x3, FnT fm [.d x0, .d x1, .d x2, .d x3] (f x0 x1 x2 x3)) (h0 : T HD t m0 s0 t1) (h1 : T HD t1 m1 s1 t2) (h2 : T HD t2 m2 s2 t3) (h3 : T HD t3 m3 s3 t4) :
    T HA t (mCall 4 fm (mCons m0 (mCons m1 (mCons m2 (mCons m3 mNil))))) (s0 >>= fun x0 => s1 >>= fun x1 => s2 >>= fun x2 => s3 >>= fun x3 => f x0 x1 x2 x3) t4 :=
  (te_callG (f := fun evs => match evs with
      | [.d x0, .d x1, .d x2, .d x3] =>  f x0 x1 x2 x3
      | _ => S.fail) (tc_cons h0 (tc_cons h1 (tc_cons h2 (tc_cons h3 tc_nil)))) fun evs => by
    split
    · exact h _ _ _ _
    · exact fn_bad).eq (by simp)
theorem te_s4 {t t1 t2 t3 t4 : List SS} {fm : FM} {m0 m1 m2 m3 : M EV} {s0 s1 s2 s3 : S PyData} {i : Nat} {b : Bool} {f : PyData → PyData → PyData → PyData → S PyData} (h : ∀ x0 x1 x2 x3, FnT fm [.src b, .d x0, .d x1, .d x2, .d x3] (f x0 x1 x2 x3)) (hs : t[i]? = some (.src b)) (h0 : T HD t m0 s0 t1) (h1 : T HD t1 m1 s1 t2) (h2 : T HD t2 m2 s2 t3) (h3 : T HD t3 m3 s3 t4) :
    T HA t (mCall 5 fm (mCons (mArg (mVar i)) (mCons m0 (mCons m1 (mCons m2 (mCons m3 mNil)))))) (s0 >>= fun x0 => s1 >>= fun x1 => s2 >>= fun x2 => s3 >>= fun x3 => f x0 x1 x2 x3) t4 :=
  (te_callG (f := fun evs => match evs with
      | [.src b2, .d x0, .d x1, .d x2, .d x3] => if b2 = b then f x0 x1 x2 x3 else S.fail
      | _ => S.fail) (tc_src hs (tc_cons h0 (tc_cons h1 (tc_cons h2 (tc_cons h3 tc_nil))))) fun evs => by
    split
    · split
      · rename_i c; subst c; exact h _ _ _ _
      · exact fn_bad
    · exact fn_bad).eq (by simp)
theorem te_c5 {t t1 t2 t3 t4 t5 : List SS} {fm : FM} {m0 m1 m2 m3 m4 : M EV} {s0 s1 s2 s3 s4 : S PyData} {f : PyData → PyData → PyData → PyData → PyData → S PyData} (h : ∀ x0 x1 x2 x3 x4, FnT fm [.d x0, .d x1, .d x2, .d x3, .d x4] (f x0 x1 x2 x3 x4)) (h0 : T HD t m0 s0 t1) (h1 : T HD t1 m1 s1 t2) (h2 : T HD t2 m2 s2 t3) (h3 : T HD t3 m3 s3 t4) (h4 : T HD t4 m4 s4 t5) :
    T HA t (mCall 5 fm (mCons m0 (mCons m1 (mCons m2 (mCons m3 (mCons m4 mNil)))))) (s0 >>= fun x0 => s1 >>= fun x1 => s2 >>= fun x2 => s3 >>= fun x3 => s4 >>= fun x4 => f x0 x1 x2 x3 x4) t5 :=
  (te_callG (f := fun evs => match evs with
      | [.d x0, .d x1, .d x2, .d x3, .d x4] =>  f x0 x1 x2 x3 x4
      | _ => S.fail) (tc_cons h0 (tc_cons h1 (tc_cons h2 (tc_cons h3 (tc_cons h4 tc_nil))))) fun evs => by
    split
    · exact h _ _ _ _ _
    · exact fn_bad).eq (by simp)
theorem te_s5 {t t1 t2 t3 t4 t5 : List SS} {fm : FM} {m0 m1 m2 m3 m4 : M EV} {s0 s1 s2 s3 s4 : S PyData} {i : Nat} {b : Bool} {f : PyData → PyData → PyData → PyData → PyData → S PyData} (h : ∀ x0 x1 x2 x3 x4, FnT fm [.src b, .d x0, .d x1, .d x2, .d x3, .d x4] (f x0 x1 x2 x3 x4)) (hs : t[i]? = some (.src b)) (h0 : T HD t m0 s0 t1) (h1 : T HD t1 m1 s1 t2) (h2 : T HD t2 m2 s2 t3) (h3 : T HD t3 m3 s3 t4) (h4 : T HD t4 m4 s4 t5) :
    T HA t (mCall 6 fm (mCons (mArg (mVar i)) (mCons m0 (mCons m1 (mCons m2 (mCons m3 (mCons m4 mNil))))))) (s0 >>= fun x0 => s1 >>= fun x1 => s2 >>= fun x2 => s3 >>= fun x3 => s4 >>= fun x4 => f x0 x1 x2 x3 x4) t5 :=
  (te_callG (f := fun evs => match evs with
      | [.src b2, .d x0, .d x1, .d x2, .d x3, .d x4] => if b2 = b then f x0 x1 x2 x3 x4 else S.fail
      | _ => S.fail) (tc_src hs (tc_cons h0 (tc_cons h1 (tc_cons h2 (tc_cons h3 (tc_cons h4 tc_nil)))))) fun evs => by
    split
    · split
      · rename_i c; subst c; exact h _ _ _ _ _
      · exact fn_bad
    · exact fn_bad).eq (by simp)
theorem te_s0 {t : List SS} {fm : FM} {i : Nat} {b : Bool} {f : S PyData} (h : FnT fm [.src b] f) (hs : t[i]? = some (.src b)) : T HA t (mCall 1 fm (mCons (mArg (mVar i)) mNil)) f t :=
  (te_callG (f := fun evs => match evs with
      | [.src b2] => if b2 = b then f else S.fail
      | _ => S.fail) (tc_src hs tc_nil) fun evs => by
    split
    · split
      · rename_i c; subst c; exact h
      · exact fn_bad
    · exact fn_bad).eq (by simp)
end DL
/-! functional mirrors: what each operation gives is an object just where it is new; helpers for the printed texts -/
namespace DL
open PySem L2
theorem LE.nil : LE [] [] := trivial
theorem LE.cons {a b : SS} {as bs : List SS} (h : a.le b) (k : LE as bs) : LE (a :: as) (b :: bs) := ⟨h, k⟩
theorem Fits.nil : Fits [] [] := trivial
theorem Fits.cons {a : SS} {x : Slot} {as : List SS} {xs : Env'} (h : a.ok x) (k : Fits as xs) : Fits (a :: as) (x :: xs) := ⟨h, k⟩
theorem SS.okD {x : PyData} : (SS.d x).ok (.d x) := rfl
theorem SS.okS {b : Bool} : (SS.src b).ok (.src b) := rfl
theorem SS.okC {ns : List Int} : (SS.scr ns).ok (.scr ns) := rfl
theorem SS.okU : SS.jk.ok .un := nofun
theorem PatOk.mono {α : Type} {p : Pat} {vs vs' : List Nat} {un : PyData → Option α} {se : α → List SS → List SS} {n : Nat} (h : PatOk p vs un se n) (k : ∀ j, j ∈ vs → j ∈ vs') : PatOk p vs' un se n :=
  ⟨fun x q t e h1 h2 h3 => let ⟨e', a, b, c⟩ := h.run x q t e h1 h2 h3; ⟨e', a, b, fun j hj => c j fun z => hj (k j z)⟩⟩
theorem TF.to {σ : Type} {t : List SS} {m : M Fl} {s : S σ} {ta tb : σ → List SS} (h : TF t m s ta) (e : ∀ v, ta v = tb v) : TF t m s tb := by
  have : ta = tb := funext e
  exact this ▸ h
def outW {κ σ τ : Type} (f : σ → τ) : Out κ σ → S (Out κ τ)
  | .ret x => pure (.ret x)
  | .brk v => pure (.brk v)
  | .ctn v => pure (.ctn v)
  | .nxt v => pure (.nxt (f v))
theorem tb_weak {κ σ τ : Type} {t : List SS} {m : M Fl} {s : S (Out κ σ)} {tl : κ → List SS} {tn : σ → List SS} {tn' : τ → List SS} (f : σ → τ) (h : TB t m s tl tn) (l : ∀ v, LE (tn v) (tn' (f v))) : TB t m (s >>= outW f) tl tn' := fun e g o g' hf q => by
  obtain ⟨w, g1, q1, q2⟩ := S.inv q
  have h := h e g w g1 hf q1
  cases w with
  | ret x => obtain ⟨rfl, rfl⟩ := S.inv0 q2; exact h
  | brk v => obtain ⟨rfl, rfl⟩ := S.inv0 q2; exact h
  | ctn v => obtain ⟨rfl, rfl⟩ := S.inv0 q2; exact h
  | nxt v => obtain ⟨rfl, rfl⟩ := S.inv0 q2; exact let ⟨e', h1, h2⟩ := h; ⟨e', h1, (l v).fits h2⟩
theorem tb_while {κ σ : Type} {t : List SS} {mt : M Bool} {mb : M Fl} {tl : κ → List SS} {tn : σ → List SS} {c : σ → S Bool} {b : σ → S (Out σ σ)} {k : Nat} (v0 : σ) (l0 : LE t (tn v0)) (hc : ∀ v, T EQ (tn v) mt (c v) (tn v)) (hb : ∀ v, TB (tn v) mb (b v) tn tn) :
    TB t (whileD mt mb k) (whileO (κ := κ) c b k v0) tl tn := fun e g u g' f q => by
  have main : ∀ (k : Nat) (v : σ) (e : Env') (g g' : G), Fits (tn v) e → whileO (κ := κ) c b k v g = some (u, g') → OutOk tl tn g' u (whileD mt mb k e g) := by
    intro k
    induction k with
    | zero => intro v e g g' f q; cases q
    | succ k ih =>
      intro v e g g' f q
      obtain ⟨x, g1, q1, q2⟩ := S.inv q
      obtain ⟨x', e1, h1, f1, _, r⟩ := hc v e g x g1 f q1
      cases r
      cases x with
      | false =>
        obtain ⟨rfl, rfl⟩ := S.inv0 (a := (Out.nxt v : Out κ σ)) q2
        refine ⟨e1, ?_, f1⟩
        unfold whileD
        rw [bind_eq h1, if_neg Bool.false_ne_true]
        rfl
      | true =>
        obtain ⟨w, g2, q3, q4⟩ := S.inv (m := b v) (f := fun o => match o with
          | .ret r => (pure (.ret r) : S (Out κ σ))
          | .brk v => pure (.nxt v)
          | .ctn v => whileO c b k v
          | .nxt v => whileO c b k v) q2
        have hb := hb v e1 g1 w g2 f1 q3
        have step : ∀ {fl : Fl} {e2 : Env'} {g2' : G}, mb e1 g1 = .ok fl e2 g2' → whileD mt mb (k + 1) e g = (match fl with
            | .nx => whileD mt mb k
            | .ct => whileD mt mb k
            | .bk => mNx
            | .rt v => M.pure (.rt v)) e2 g2' := fun {fl e2 g2'} h2 => by
          conv => lhs; unfold whileD
          rw [bind_eq h1, if_pos rfl, bind_eq h2]
          all_goals (cases fl <;> rfl)
        cases w with
        | ret x =>
          obtain ⟨ev, e2, h2, h3⟩ := hb
          obtain ⟨rfl, rfl⟩ := S.inv0 q4
          exact ⟨ev, e2, step h2, h3⟩
        | brk v' =>
          obtain ⟨e2, h2, f2⟩ := hb
          obtain ⟨rfl, rfl⟩ := S.inv0 q4
          exact ⟨e2, step h2, f2⟩
        | ctn v' =>
          obtain ⟨e2, h2, f2⟩ := hb
          rw [step h2]
          exact ih v' e2 g2 g' f2 q4
        | nxt v' =>
          obtain ⟨e2, h2, f2⟩ := hb
          rw [step h2]
          exact ih v' e2 g2 g' f2 q4
  exact main k v0 e g g' (l0.fits f) q
def putS (x k d : PyData) : S PyData := match k, x with
  | .int k, .list ds => match ixN ds.length k with
    | some n => pure (.list (ds.set n d))
    | none => S.fail
  | _, _ => S.fail
theorem tf_putAt {t t1 t2 : List SS} {j : Nat} {x : PyData} {mv mi : M PyData} {sv si : S PyData} (hv : T EQ t mv sv t1) (h0 : t1[j]? = some (.ow x)) (hi : T EQ t1 mi si t2) (h2 : t2[j]? = some (.ow x)) :
    TF t (mPutAt j mv mi) (sv >>= fun d => si >>= fun k => putS x k d) fun y => t2.set j (.ow y) := fun e g y g' f q => by
  obtain ⟨d, g1, q1, q2⟩ := S.inv q
  obtain ⟨k, g2, q3, q4⟩ := S.inv q2
  obtain ⟨d', e1, h3, f1, _, rfl⟩ := hv e g d _ f q1
  obtain ⟨k', e2, h4, f2, _, rfl⟩ := hi e1 g1 k _ f1 q3
  cases k' <;> first | (cases q4; done) | skip
  cases x <;> first | (cases q4; done) | skip
  rename_i k ds
  have q4 : (match ixN ds.length k with
    | some n => (pure (.list (ds.set n d')) : S PyData)
    | none => S.fail) g2 = some (y, g') := q4
  cases c : ixN ds.length k with
  | none => rw [c] at q4; cases q4
  | some n =>
    rw [c] at q4
    obtain ⟨rfl, rfl⟩ := S.inv0 q4
    refine ⟨e2.set j (.own (.list (ds.set n d'))), ?_, f2.set j (ow_ok rfl)⟩
    unfold mPutAt
    rw [bind_eq h3]
    rw [if_pos (own_at (ow_get f1 h0)).1]
    rw [bind_eq h4]
    simp only [(own_at (ow_get f2 h2)).2, c]
/-! the law: its source, its end -/
def srcS (fm : FM) (ns : List Int) : S Unit := fun g => match fm [.scr ns] g with
  | .ok (.src false) [] g' => some ((), g')
  | _ => none
theorem tf_source {t : List SS} {i k : Nat} {ns : List Int} {fm : FM} (h : t[i]? = some (.scr ns)) : TF t (mSet k (mArg (mCall 1 fm (mCons (mArg (mVar i)) mNil)))) (srcS fm ns) fun _ => t.set k (.src false) := fun e g v g' f q => by
  obtain ⟨s, h1, h2⟩ := f.get h
  cases (show s = .scr ns from h2)
  unfold srcS at q
  split at q
  · rename_i g1 hq
    cases q
    have hv : mArg (mVar i) e g = .ok (.scr ns) e g := by
      unfold mArg mVar
      simp only [M.bind, h1]
      rfl
    have ha : mCons (mArg (mVar i)) mNil e g = .ok [.scr ns] e g := by
      unfold mCons
      rw [bind_eq hv]
      rfl
    have hc : mArg (mCall 1 fm (mCons (mArg (mVar i)) mNil)) e g = .ok (.src false) e g' := by
      have hm := mCall_ok (n := 1) ha rfl rfl hq
      show M.bind (mCall 1 fm (mCons (mArg (mVar i)) mNil)) _ e g = _
      rw [bind_eq hm]
      rfl
    exact ⟨_, by unfold mSet; rw [bind_eq hc]; rfl, f.set k rfl⟩
  · cases q
theorem law_of_T {fm : FM} {ns : List Int} {s : S PyData} (h : FnT fm [.scr ns] s) (k : ∃ g', s none = some (.bool true, g')) : WpF (fm [.scr ns] none) fun ev _ => ev = .d (.bool true) := by
  obtain ⟨g', k⟩ := k
  obtain ⟨ev, h1, h2⟩ := h none _ g' k
  refine WpF.of h1 ?_
  rcases h2 with h2 | ⟨_, h2⟩
  · exact h2
  · cases h2
/-! which operations give objects -/
theorem wf_d {o : Option RV} {r : RV} (h : o = some r) (k : ∀ x, o ≠ some (.fr x)) : r.wf := by
  cases r with
  | d x => trivial
  | fr x => exact absurd h (k x)
instance : Wf2 pyAdd := ⟨fun x y r h => by
  unfold pyAdd at h
  split at h <;> first | (cases h; done) | skip
  · cases h; trivial
  all_goals
    split at h
    · cases h; first | trivial | rfl
    · cases h⟩
instance : Wf2 pySub := ⟨fun x y r h => by unfold pySub at h; split at h <;> cases h; trivial⟩
instance : Wf2 pyMul := ⟨fun x y r h => by unfold pyMul at h; split at h <;> first | (split at h <;> cases h <;> first | trivial | rfl) | cases h⟩
instance : Wf2 pyFloorDiv := ⟨fun x y r h => by unfold pyFloorDiv at h; split at h <;> first | (split at h <;> cases h; trivial) | cases h⟩
instance : Wf2 pyMod := ⟨fun x y r h => by unfold pyMod at h; split at h <;> first | (split at h <;> cases h; trivial) | cases h⟩
instance : Wf2 pyPow := ⟨fun x y r h => by unfold pyPow at h; split at h <;> first | (split at h <;> cases h; trivial) | cases h⟩
instance : Wf2 pyEq := ⟨fun x y r h => by unfold pyEq at h; split at h <;> cases h; trivial⟩
instance : Wf2 pyNe := ⟨fun x y r h => by unfold pyNe at h; split at h <;> cases h; trivial⟩
instance {p : Int → Int → Bool} {q : PyData → PyData → Bool} : Wf2 (pyCmp p q) := ⟨fun x y r h => by unfold pyCmp at h; split at h <;> first | (cases h; trivial) | (split at h <;> cases h; trivial) | cases h⟩
instance : Wf2 pyLt := inferInstanceAs (Wf2 (pyCmp _ _))
instance : Wf2 pyLe := inferInstanceAs (Wf2 (pyCmp _ _))
instance : Wf2 pyGt := inferInstanceAs (Wf2 (pyCmp _ _))
instance : Wf2 pyGe := inferInstanceAs (Wf2 (pyCmp _ _))
instance {b : Bool} : Wf2 (pyIs b) := ⟨fun x y r h => by unfold pyIs at h; split at h <;> first | (split at h <;> cases h <;> trivial) | cases h⟩
instance {b : Bool} : Wf2 (pyIn b) := ⟨fun x y r h => by unfold pyIn at h; split at h <;> first | (split at h <;> cases h; trivial) | (split at h <;> cases h <;> trivial) | cases h⟩
instance : Wf2 pyIx := ⟨fun x y r h => by
  unfold pyIx at h
  split at h
  · rename_i ds i
    cases q : atI ds i with
    | none => rw [q] at h; cases h
    | some z => rw [q] at h; cases h; trivial
  · rename_i ds i
    cases q : atI ds i with
    | none => rw [q] at h; cases h
    | some z => rw [q] at h; cases h; trivial
  · rename_i z i
    split at h
    · cases q : atI z.cps.toList i with
      | none => rw [q] at h; cases h
      | some z => rw [q] at h; cases h; trivial
    · cases h
  · cases h⟩
instance : Wf1 pyNeg := ⟨fun x r h => by unfold pyNeg at h; split at h <;> cases h; trivial⟩
instance : Wf1 pyRev := ⟨fun x r h => by unfold pyRev at h; split at h <;> cases h <;> first | trivial | rfl⟩
instance : WfL DL.pyLen := ⟨fun x r h => by unfold DL.pyLen at h; split at h <;> first | (cases h; trivial) | (cases h; done) | (split at h <;> cases h; trivial)⟩
instance : WfL pyGcd := ⟨fun x r h => by unfold pyGcd at h; split at h <;> cases h; trivial⟩
instance : WfL pyAbs := ⟨fun x r h => by unfold pyAbs at h; split at h <;> cases h; trivial⟩
instance : WfL pyInt := ⟨fun x r h => by unfold pyInt at h; split at h <;> cases h <;> trivial⟩
instance : WfL pyBool := ⟨fun x r h => by unfold pyBool at h; split at h <;> cases h <;> trivial⟩
instance : WfL pyMax2 := ⟨fun x r h => by unfold pyMax2 at h; split at h <;> cases h; trivial⟩
instance : WfL pyMin2 := ⟨fun x r h => by unfold pyMin2 at h; split at h <;> cases h; trivial⟩
instance : WfL pyListOf := ⟨fun x r h => by unfold pyListOf at h; split at h <;> cases h <;> rfl⟩
instance : WfL pyTupOf := ⟨fun x r h => by unfold pyTupOf at h; split at h <;> cases h <;> trivial⟩
theorem wf_map {α : Type} {o : Option α} {f : α → PyData} {r : RV} (h : (o.map fun a => RV.d (f a)) = some r) : r.wf := by
  cases o with
  | none => cases h
  | some a => cases h; trivial
instance : WfL pyAll := ⟨fun x r h => by unfold pyAll at h; split at h <;> first | exact wf_map h | cases h⟩
instance : WfL pyAny := ⟨fun x r h => by unfold pyAny at h; split at h <;> first | exact wf_map h | cases h⟩
instance : WfL pySum := ⟨fun x r h => by unfold pySum at h; split at h <;> first | exact wf_map h | cases h⟩
instance : WfL pyMax := ⟨fun x r h => by unfold pyMax at h; split at h <;> first | (split at h <;> first | exact wf_map h | cases h) | cases h⟩
instance : WfL pyMin := ⟨fun x r h => by unfold pyMin at h; split at h <;> first | (split at h <;> first | exact wf_map h | cases h) | cases h⟩
instance : WfL pySorted := ⟨fun x r h => by unfold pySorted at h; split at h <;> first | (split at h <;> cases h; rfl) | cases h⟩
theorem nw_d {x : PyData} (h : isObj x = false) : (isObj (RV.d x).val = true → RV.d x = .fr (RV.d x).val) ∧ (isObj (RV.d x).val = false → RV.d x = .d (RV.d x).val) := ⟨fun z => (by rw [show (RV.d x).val = x from rfl, h] at z; cases z), fun _ => rfl⟩
theorem nw_f {x : PyData} (h : isObj x = true) : (isObj (RV.fr x).val = true → RV.fr x = .fr (RV.fr x).val) ∧ (isObj (RV.fr x).val = false → RV.fr x = .d (RV.fr x).val) := ⟨fun _ => rfl, fun z => (by rw [show (RV.fr x).val = x from rfl, h] at z; cases z)⟩
instance : New2 pyAdd := ⟨fun x y r h => by unfold pyAdd at h; (repeat' split at h) <;> cases h <;> first | exact nw_d rfl | exact nw_f rfl⟩
instance : New2 pySub := ⟨fun x y r h => by unfold pySub at h; (repeat' split at h) <;> cases h <;> first | exact nw_d rfl | exact nw_f rfl⟩
instance : New2 pyMul := ⟨fun x y r h => by unfold pyMul at h; (repeat' split at h) <;> cases h <;> first | exact nw_d rfl | exact nw_f rfl⟩
instance : New2 pyFloorDiv := ⟨fun x y r h => by unfold pyFloorDiv at h; (repeat' split at h) <;> cases h <;> first | exact nw_d rfl | exact nw_f rfl⟩
instance : New2 pyMod := ⟨fun x y r h => by unfold pyMod at h; (repeat' split at h) <;> cases h <;> first | exact nw_d rfl | exact nw_f rfl⟩
instance : New2 pyPow := ⟨fun x y r h => by unfold pyPow at h; (repeat' split at h) <;> cases h <;> first | exact nw_d rfl | exact nw_f rfl⟩
instance : New2 pyEq := ⟨fun x y r h => by unfold pyEq at h; (repeat' split at h) <;> cases h <;> first | exact nw_d rfl | exact nw_f rfl⟩
instance : New2 pyNe := ⟨fun x y r h => by unfold pyNe at h; (repeat' split at h) <;> cases h <;> first | exact nw_d rfl | exact nw_f rfl⟩
instance {p : Int → Int → Bool} {q : PyData → PyData → Bool} : New2 (pyCmp p q) := ⟨fun x y r h => by unfold pyCmp at h; (repeat' split at h) <;> cases h <;> first | exact nw_d rfl | exact nw_f rfl⟩
instance {b : Bool} : New2 (pyIs b) := ⟨fun x y r h => by unfold pyIs at h; (repeat' split at h) <;> cases h <;> first | exact nw_d rfl | exact nw_f rfl⟩
instance {b : Bool} : New2 (pyIn b) := ⟨fun x y r h => by unfold pyIn at h; (repeat' split at h) <;> cases h <;> first | exact nw_d rfl | exact nw_f rfl⟩
instance : New2 pyLt := inferInstanceAs (New2 (pyCmp _ _))
instance : New2 pyLe := inferInstanceAs (New2 (pyCmp _ _))
instance : New2 pyGt := inferInstanceAs (New2 (pyCmp _ _))
instance : New2 pyGe := inferInstanceAs (New2 (pyCmp _ _))
instance : New1 pyNeg := ⟨fun x r h => by unfold pyNeg at h; (repeat' split at h) <;> cases h <;> first | exact nw_d rfl | exact nw_f rfl⟩
instance : New1 pyRev := ⟨fun x r h => by unfold pyRev at h; (repeat' split at h) <;> cases h <;> first | exact nw_d rfl | exact nw_f rfl⟩
theorem nw_map {α : Type} {o : Option α} {f : α → PyData} {r : RV} (k : ∀ a, isObj (f a) = false) (h : (o.map fun a => RV.d (f a)) = some r) : (isObj r.val = true → r = .fr r.val) ∧ (isObj r.val = false → r = .d r.val) := by
  cases o with
  | none => cases h
  | some a => cases h; exact nw_d (k a)
instance : NewL DL.pyLen := ⟨fun x r h => by unfold DL.pyLen at h; (repeat' split at h) <;> first | (cases h; done) | exact nw_map (fun _ => rfl) h | (cases h <;> first | exact nw_d rfl | exact nw_f rfl)⟩
instance : NewL pyAbs := ⟨fun x r h => by unfold pyAbs at h; (repeat' split at h) <;> first | (cases h; done) | exact nw_map (fun _ => rfl) h | (cases h <;> first | exact nw_d rfl | exact nw_f rfl)⟩
instance : NewL pyInt := ⟨fun x r h => by unfold pyInt at h; (repeat' split at h) <;> first | (cases h; done) | exact nw_map (fun _ => rfl) h | (cases h <;> first | exact nw_d rfl | exact nw_f rfl)⟩
instance : NewL pyBool := ⟨fun x r h => by unfold pyBool at h; (repeat' split at h) <;> first | (cases h; done) | exact nw_map (fun _ => rfl) h | (cases h <;> first | exact nw_d rfl | exact nw_f rfl)⟩
instance : NewL pyMax2 := ⟨fun x r h => by unfold pyMax2 at h; (repeat' split at h) <;> first | (cases h; done) | exact nw_map (fun _ => rfl) h | (cases h <;> first | exact nw_d rfl | exact nw_f rfl)⟩
instance : NewL pyMin2 := ⟨fun x r h => by unfold pyMin2 at h; (repeat' split at h) <;> first | (cases h; done) | exact nw_map (fun _ => rfl) h | (cases h <;> first | exact nw_d rfl | exact nw_f rfl)⟩
instance : NewL pyListOf := ⟨fun x r h => by unfold pyListOf at h; (repeat' split at h) <;> first | (cases h; done) | exact nw_map (fun _ => rfl) h | (cases h <;> first | exact nw_d rfl | exact nw_f rfl)⟩
instance : NewL pyTupOf := ⟨fun x r h => by unfold pyTupOf at h; (repeat' split at h) <;> first | (cases h; done) | exact nw_map (fun _ => rfl) h | (cases h <;> first | exact nw_d rfl | exact nw_f rfl)⟩
instance : NewL pyAll := ⟨fun x r h => by unfold pyAll at h; (repeat' split at h) <;> first | (cases h; done) | exact nw_map (fun _ => rfl) h | (cases h <;> first | exact nw_d rfl | exact nw_f rfl)⟩
instance : NewL pyAny := ⟨fun x r h => by unfold pyAny at h; (repeat' split at h) <;> first | (cases h; done) | exact nw_map (fun _ => rfl) h | (cases h <;> first | exact nw_d rfl | exact nw_f rfl)⟩
instance : NewL pySum := ⟨fun x r h => by unfold pySum at h; (repeat' split at h) <;> first | (cases h; done) | exact nw_map (fun _ => rfl) h | (cases h <;> first | exact nw_d rfl | exact nw_f rfl)⟩
instance : NewL pyMax := ⟨fun x r h => by unfold pyMax at h; (repeat' split at h) <;> first | (cases h; done) | exact nw_map (fun _ => rfl) h | (cases h <;> first | exact nw_d rfl | exact nw_f rfl)⟩
instance : NewL pyMin := ⟨fun x r h => by unfold pyMin at h; (repeat' split at h) <;> first | (cases h; done) | exact nw_map (fun _ => rfl) h | (cases h <;> first | exact nw_d rfl | exact nw_f rfl)⟩
instance : NewL pySorted := ⟨fun x r h => by unfold pySorted at h; (repeat' split at h) <;> first | (cases h; done) | exact nw_map (fun _ => rfl) h | (cases h <;> first | exact nw_d rfl | exact nw_f rfl)⟩
instance : NewL pyGcd := ⟨fun x r h => by unfold pyGcd at h; (repeat' split at h) <;> first | (cases h; done) | exact nw_map (fun _ => rfl) h | (cases h <;> first | exact nw_d rfl | exact nw_f rfl)⟩
end DL
/-! functional mirrors, evaluated: what simp knows -/
namespace DL
open PySem L2
@[simp] theorem opt_some {α : Type} (a : α) : S.opt (some a) = pure a := rfl
@[simp] theorem opt_none {α : Type} : S.opt (none : Option α) = S.fail := rfl
@[simp] theorem fail_bind {α β : Type} (f : α → S β) : (S.fail >>= f) = S.fail := rfl
@[simp] theorem sOp_d (x : PyData) : sOp (some (.d x)) = pure x := rfl
@[simp] theorem sOp_fr (x : PyData) : sOp (some (.fr x)) = pure x := rfl
@[simp] theorem sOp_none : sOp none = S.fail := rfl
@[simp] theorem sBin_p (g : PyData → PyData → Option RV) (a b : PyData) : sBin g (pure a) (pure b) = sOp (g a b) := rfl
@[simp] theorem sUn_p (g : PyData → Option RV) (a : PyData) : sUn g (pure a) = sOp (g a) := rfl
@[simp] theorem boolS_b (b : Bool) : boolS (.bool b) = pure b := rfl
@[simp] theorem sBool_p (b : Bool) : sBool (pure (.bool b)) = pure b := rfl
@[simp] theorem sAndT_p (a : Bool) (b : S Bool) : sAndT (pure a) b = if a then b else pure false := rfl
@[simp] theorem sOrT_p (a : Bool) (b : S Bool) : sOrT (pure a) b = if a then pure true else b := rfl
@[simp] theorem sNotT_p (a : Bool) : sNotT (pure a) = pure (!a) := rfl
@[simp] theorem sAndV_p (a : Bool) (b : S PyData) : sAndV (pure (.bool a)) b = if a then b else pure (.bool false) := rfl
@[simp] theorem sOrV_p (a : Bool) (b : S PyData) : sOrV (pure (.bool a)) b = if a then pure (.bool true) else b := rfl
@[simp] theorem sNotV_p (a : Bool) : sNotV (pure (.bool a)) = pure (.bool (!a)) := rfl
@[simp] theorem sIf_p {α : Type} (c : Bool) (a b : S α) : sIf (pure c) a b = if c then a else b := rfl
@[simp] theorem sNil_p : sNil = pure [] := rfl
@[simp] theorem sCons_p (a : PyData) (r : List PyData) : sCons (pure a) (pure r) = pure (a :: r) := rfl
@[simp] theorem sStar_l (a : List PyData) (r : List PyData) : sStar (pure (.list a)) (pure r) = pure (a ++ r) := rfl
@[simp] theorem sStar_t (a : List PyData) (r : List PyData) : sStar (pure (.tuple a)) (pure r) = pure (a ++ r) := rfl
@[simp] theorem sTup_p (ds : List PyData) : sTup (pure ds) = sSz .tuple ds := rfl
@[simp] theorem sLst_p (ds : List PyData) : sLst (pure ds) = sSz .list ds := rfl
theorem sSz_eq {α : Type} (f : List PyData → α) {ds : List PyData} (h : ds.length ≤ 16777216) : sSz f ds = pure (f ds) := by
  unfold sSz
  rw [if_pos (by rw [sizeLine_eq]; exact h)]
@[simp] theorem sSz_nil {α : Type} (f : List PyData → α) : sSz f [] = pure (f []) := sSz_eq f (by decide)
@[simp] theorem sSz_1 {α : Type} (f : List PyData → α) (a : PyData) : sSz f [a] = pure (f [a]) := sSz_eq f (by simp)
@[simp] theorem sSz_2 {α : Type} (f : List PyData → α) (a b : PyData) : sSz f [a, b] = pure (f [a, b]) := sSz_eq f (by simp)
@[simp] theorem sSz_3 {α : Type} (f : List PyData → α) (a b c : PyData) : sSz f [a, b, c] = pure (f [a, b, c]) := sSz_eq f (by simp)
@[simp] theorem sSz_4 {α : Type} (f : List PyData → α) (a b c d : PyData) : sSz f [a, b, c, d] = pure (f [a, b, c, d]) := sSz_eq f (by simp)
@[simp] theorem sSz_5 {α : Type} (f : List PyData → α) (a b c d e : PyData) : sSz f [a, b, c, d, e] = pure (f [a, b, c, d, e]) := sSz_eq f (by simp)
@[simp] theorem sCallB_p (g : List PyData → Option RV) (xs : List PyData) : sCallB g (pure xs) = sOp (g xs) := rfl
@[simp] theorem sIsi_p (T : String) (x : PyData) : sIsi T (pure x) = pure (.bool (isiD T x)) := rfl
@[simp] theorem partS_i (i : Int) : partS (.int i) = pure (some i) := rfl
@[simp] theorem sSl_p (a : PyData) (i j : Option Int) : sSl (pure a) (pure i) (pure j) = sOp (pySl a i j) := rfl
@[simp] theorem intS_i (i : Int) : intS (.int i) = pure i := rfl
@[simp] theorem sRg1_i (i : Int) : sRg1 (pure (.int i)) = pure (0, i) := rfl
@[simp] theorem sRg2_i (i j : Int) : sRg2 (pure (.int i)) (pure (.int j)) = pure (i, j) := rfl
@[simp] theorem itemsS_l (ds : List PyData) : itemsS (.list ds) = pure ds := rfl
@[simp] theorem itemsS_t (ds : List PyData) : itemsS (.tuple ds) = pure ds := rfl
@[simp] theorem sItems_l (ds : List PyData) : sItems (pure (.list ds)) = pure ds := rfl
@[simp] theorem sItems_t (ds : List PyData) : sItems (pure (.tuple ds)) = pure ds := rfl
@[simp] theorem sRange1_p (a : Int) : sRange1 (pure (.int a)) = S.opt (rngTo 0 a) := rfl
@[simp] theorem sRange2_p (a b : Int) : sRange2 (pure (.int a)) (pure (.int b)) = S.opt (rngTo a b) := rfl
@[simp] theorem sEnum_l (ds : List PyData) : sEnum (pure (.list ds)) = pure (numbered 0 ds) := rfl
@[simp] theorem sEnum_t (ds : List PyData) : sEnum (pure (.tuple ds)) = pure (numbered 0 ds) := rfl
@[simp] theorem sZip_l (ds es : List PyData) : sZip (pure (.list ds)) (pure (.list es)) = pure (zipped ds es) := rfl
@[simp] theorem sZip_t (ds es : List PyData) : sZip (pure (.tuple ds)) (pure (.tuple es)) = pure (zipped ds es) := rfl
@[simp] theorem sIdx_p (a b : PyData) : sIdx (pure a) (pure b) = sOp (pyIndex a b) := rfl
@[simp] theorem sRepr_p (a : PyData) : sRepr (pure a) = sOp (pyRepr1 a) := rfl
@[simp] theorem cmpB_b (b : Bool) : cmpB (some (.d (.bool b))) = pure b := rfl
theorem sChain_p (g1 g2 : PyData → PyData → Option RV) (a b c : PyData) : sChain g1 g2 (pure a) (pure b) (pure c) = (cmpB (g1 a b) >>= fun k => if k then sOp (g2 b c) else pure (.bool false)) := rfl
@[simp] theorem sComp_p {α : Type} (un : PyData → Option α) (xs : List PyData) (ct : α → S Bool) (ce : α → S PyData) : sComp un (pure xs) ct ce = compG (fun x => S.opt (un x) >>= fun q => ct q >>= fun b => if b then ce q >>= fun y => pure (some y) else pure none) xs >>= sSz .list := rfl
@[simp] theorem sCompA_p {α : Type} (un : PyData → Option α) (xs : List PyData) (ce : α → S PyData) : sCompA un (pure xs) ce = mapG (fun x => S.opt (un x) >>= ce) xs >>= sSz .list := rfl
@[simp] theorem un1_p (x : PyData) : un1 x = some x := rfl
@[simp] theorem un2_p (a b : PyData) : un2 (.tuple [a, b]) = some (a, b) := rfl
@[simp] theorem un3_p (a b c : PyData) : un3 (.tuple [a, b, c]) = some (a, b, c) := rfl
@[simp] theorem un4_p (a b c d : PyData) : un4 (.tuple [a, b, c, d]) = some (a, b, c, d) := rfl
@[simp] theorem un21_p (a b c : PyData) : un21 (.tuple [.tuple [a, b], c]) = some (a, b, c) := rfl
@[simp] theorem un12_p (a b c : PyData) : un12 (.tuple [a, .tuple [b, c]]) = some (a, b, c) := rfl
@[simp] theorem two_p (a b : PyData) : two [a, b] = some (a, b) := rfl
@[simp] theorem three_p (a b c : PyData) : three [a, b, c] = some (a, b, c) := rfl
@[simp] theorem outR_ret {κ σ : Type} (k : σ → S PyData) (x : PyData) : outR (κ := κ) k (.ret x) = pure x := rfl
@[simp] theorem outR_nxt {κ σ : Type} (k : σ → S PyData) (v : σ) : outR (κ := κ) k (.nxt v) = k v := rfl
@[simp] theorem outW_ret {κ σ τ : Type} (k : σ → τ) (x : PyData) : outW (κ := κ) k (.ret x) = pure (.ret x) := rfl
@[simp] theorem outW_nxt {κ σ τ : Type} (k : σ → τ) (v : σ) : outW (κ := κ) k (.nxt v) = pure (.nxt (k v)) := rfl
@[simp] theorem outB_ret {κ σ τ : Type} (k : σ → S (Out κ τ)) (x : PyData) : outB k (.ret x) = pure (.ret x) := rfl
@[simp] theorem outB_nxt {κ σ τ : Type} (k : σ → S (Out κ τ)) (v : σ) : outB k (.nxt v) = k v := rfl
@[simp] theorem outB_brk {κ σ τ : Type} (k : σ → S (Out κ τ)) (v : κ) : outB k (.brk v) = pure (.brk v) := rfl
@[simp] theorem outB_ctn {κ σ τ : Type} (k : σ → S (Out κ τ)) (v : κ) : outB k (.ctn v) = pure (.ctn v) := rfl
theorem bind_ite {α β : Type} (c : Prop) [Decidable c] (a b : S α) (f : α → S β) : ((if c then a else b) >>= f) = if c then a >>= f else b >>= f := by split <;> rfl
/-! lists -/
@[simp] theorem mapG_nil {α β : Type} (f : α → S β) : mapG f [] = pure [] := rfl
theorem mapG_cons {α β : Type} (f : α → S β) (x : α) (xs : List α) : mapG f (x :: xs) = f x >>= fun y => mapG f xs >>= fun ys => pure (y :: ys) := rfl
@[simp] theorem mapG_map {α β γ : Type} (e : γ → α) (f : α → S β) : ∀ l : List γ, mapG f (l.map e) = mapG (fun a => f (e a)) l
  | [] => rfl
  | x :: l => by rw [List.map_cons, mapG_cons, mapG_cons, mapG_map e f l]
theorem mapG_enc {α β γ : Type} {f : α → S γ} (e : β → γ) (h : α → β) : ∀ {l : List α}, (∀ x ∈ l, f x = pure (e (h x))) → mapG f l = pure ((l.map h).map e)
  | [], _ => rfl
  | x :: l, k => by
    rw [mapG_cons, k x (by simp), mapG_enc e h fun y hy => k y (List.mem_cons_of_mem _ hy)]
    rfl
theorem mapG_eq {α β : Type} {f : α → S β} (h : α → β) : ∀ {l : List α}, (∀ x ∈ l, f x = pure (h x)) → mapG f l = pure (l.map h)
  | [], _ => rfl
  | x :: l, k => by
    rw [mapG_cons, k x (by simp), mapG_eq h fun y hy => k y (List.mem_cons_of_mem _ hy)]
    rfl
@[simp] theorem mapG_pure {α β : Type} (h : α → β) (l : List α) : mapG (fun x => (pure (h x) : S β)) l = pure (l.map h) := mapG_eq h fun _ _ => rfl
theorem mapG_congr {α β : Type} {f g : α → S β} {l l' : List α} (e : l = l') (h : ∀ x ∈ l', f x = g x) : mapG f l = mapG g l' := by
  subst e
  induction l with
  | nil => rfl
  | cons x l ih => rw [mapG_cons, mapG_cons, h x (by simp), ih fun y hy => h y (List.mem_cons_of_mem _ hy)]
@[simp] theorem compG_nil {α β : Type} (f : α → S (Option β)) : compG f [] = pure [] := rfl
theorem compG_cons {α β : Type} (f : α → S (Option β)) (x : α) (xs : List α) : compG f (x :: xs) = f x >>= fun o => compG f xs >>= fun ys => pure (o.toList ++ ys) := rfl
@[simp] theorem compG_map {α β γ : Type} (e : γ → α) (f : α → S (Option β)) : ∀ l : List γ, compG f (l.map e) = compG (fun a => f (e a)) l
  | [] => rfl
  | x :: l => by rw [List.map_cons, compG_cons, compG_cons, compG_map e f l]
theorem compG_eq {α β : Type} {f : α → S (Option β)} (c : α → Bool) (h : α → β) : ∀ {l : List α}, (∀ x ∈ l, f x = if c x then pure (some (h x)) else pure none) → compG f l = pure ((l.filter c).map h)
  | [], _ => rfl
  | x :: l, k => by
    rw [compG_cons, k x (by simp), compG_eq c h fun y hy => k y (List.mem_cons_of_mem _ hy)]
    cases q : c x <;> simp [List.filter_cons, q]
theorem compG_enc {α β γ : Type} {f : α → S (Option γ)} (e : β → γ) (c : α → Bool) (h : α → β) : ∀ {l : List α}, (∀ x ∈ l, f x = if c x then pure (some (e (h x))) else pure none) → compG f l = pure (((l.filter c).map h).map e)
  | [], _ => rfl
  | x :: l, k => by
    rw [compG_cons, k x (by simp), compG_enc e c h fun y hy => k y (List.mem_cons_of_mem _ hy)]
    cases q : c x <;> simp [List.filter_cons, q]
@[simp] theorem compG_if {α β : Type} (c : α → Prop) [DecidablePred c] (h : α → β) (l : List α) : compG (fun x => (if c x then pure (some (h x)) else pure none : S (Option β))) l = pure ((l.filter fun x => decide (c x)).map h) :=
  compG_eq (fun x => decide (c x)) h fun x _ => by by_cases q : c x <;> simp [q]
theorem compG_congr {α β : Type} {f g : α → S (Option β)} {l l' : List α} (e : l = l') (h : ∀ x ∈ l', f x = g x) : compG f l = compG g l' := by
  subst e
  induction l with
  | nil => rfl
  | cons x l ih => rw [compG_cons, compG_cons, h x (by simp), ih fun y hy => h y (List.mem_cons_of_mem _ hy)]
@[simp] theorem foldS_nil {α σ : Type} (f : σ → α → S σ) (v : σ) : foldS f [] v = pure v := rfl
theorem foldS_cons {α σ : Type} (f : σ → α → S σ) (x : α) (xs : List α) (v : σ) : foldS f (x :: xs) v = f v x >>= foldS f xs := rfl
@[simp] theorem foldS_map {α γ σ : Type} (e : γ → α) (f : σ → α → S σ) : ∀ (l : List γ) (v : σ), foldS f (l.map e) v = foldS (fun v a => f v (e a)) l v
  | [], _ => rfl
  | x :: l, v => by
    rw [List.map_cons, foldS_cons, foldS_cons]
    congr 1
    funext w
    exact foldS_map e f l w
/-- a loop that computes: by an encoding of its state -/
theorem foldS_eq {α σ τ : Type} {f : σ → α → S σ} (enc : τ → σ) (st : τ → α → τ) (I : List α → τ → Prop) : ∀ {l : List α} {v : τ}, I l v → (∀ x r v, I (x :: r) v → f (enc v) x = pure (enc (st v x)) ∧ I r (st v x)) → foldS f l (enc v) = pure (enc (l.foldl st v))
  | [], v, _, _ => rfl
  | x :: l, v, i, h => by
    obtain ⟨h1, h2⟩ := h x l v i
    rw [foldS_cons, h1, pure_bind, foldS_eq enc st I h2 h]
    rfl
theorem foldS_eq' {α σ τ : Type} {f : σ → α → S σ} (enc : τ → σ) (st : τ → α → τ) {l : List α} {v : τ} (h : ∀ x ∈ l, ∀ v, f (enc v) x = pure (enc (st v x))) : foldS f l (enc v) = pure (enc (l.foldl st v)) := by
  induction l generalizing v with
  | nil => rfl
  | cons x l ih =>
    rw [foldS_cons, h x (by simp), pure_bind, ih fun y hy => h y (List.mem_cons_of_mem _ hy)]
    rfl
theorem forO_nil {α σ κ : Type} (f : σ → α → S (Out σ σ)) (v : σ) : forO (κ := κ) f [] v = pure (.nxt v) := rfl
theorem forO_cons {α σ κ : Type} (f : σ → α → S (Out σ σ)) (x : α) (xs : List α) (v : σ) : forO (κ := κ) f (x :: xs) v = f v x >>= fun o => match o with
    | .ret r => pure (.ret r)
    | .brk v => pure (.nxt v)
    | .ctn v => forO f xs v
    | .nxt v => forO f xs v := rfl
@[simp] theorem forO_map {α γ σ κ : Type} (e : γ → α) (f : σ → α → S (Out σ σ)) : ∀ (l : List γ) (v : σ), forO (κ := κ) f (l.map e) v = forO (fun v a => f v (e a)) l v
  | [], _ => rfl
  | x :: l, v => by
    rw [List.map_cons, forO_cons, forO_cons]
    congr 1
    funext o
    cases o with
    | ctn w => exact forO_map e f l w
    | nxt w => exact forO_map e f l w
    | _ => rfl
/-- a loop that gives back at the first x with c x -/
theorem forO_find {α κ : Type} {f : Unit → α → S (Out Unit Unit)} (c : α → Bool) (r : α → PyData) : ∀ {l : List α}, (∀ x ∈ l, f () x = if c x then pure (.ret (r x)) else pure (.nxt ())) → forO (κ := κ) f l () = pure (match l.find? c with
    | some x => .ret (r x)
    | none => .nxt ())
  | [], _ => rfl
  | x :: l, h => by
    rw [forO_cons, h x (by simp)]
    cases q : c x with
    | true => simp [List.find?_cons, q]
    | false =>
      have ih := forO_find (κ := κ) c r (l := l) fun y hy => h y (List.mem_cons_of_mem _ hy)
      simp [List.find?_cons, q, ih]
/-! data -/
@[simp] theorem isi_nn (T : String) : isiD T .none = (T == "NoneType") := by simp [isiD, tyName, BEq.comm]
@[simp] theorem isi_bb (T : String) (b : Bool) : isiD T (.bool b) = (T == "bool" || T == "int") := by simp [isiD, tyName, BEq.comm]
@[simp] theorem isi_ii (T : String) (b : Int) : isiD T (.int b) = (T == "int") := by simp [isiD, tyName, BEq.comm]
@[simp] theorem isi_ss (T : String) (b : Str) : isiD T (.str b) = (T == "str") := by simp [isiD, tyName, BEq.comm]
@[simp] theorem isi_ll (T : String) (b : List PyData) : isiD T (.list b) = (T == "list") := by simp [isiD, tyName, BEq.comm]
@[simp] theorem isi_tt (T : String) (b : List PyData) : isiD T (.tuple b) = (T == "tuple") := by simp [isiD, tyName, BEq.comm]
@[simp] theorem isi_dd (T : String) (b : List (PyData × PyData)) : isiD T (.dict b) = (T == "dict") := by simp [isiD, tyName, BEq.comm]
@[simp] theorem pyAdd_ii (i j : Int) : pyAdd (.int i) (.int j) = some (.d (.int (i + j))) := rfl
@[simp] theorem pySub_ii (i j : Int) : pySub (.int i) (.int j) = some (.d (.int (i - j))) := rfl
@[simp] theorem pyNeg_i (i : Int) : pyNeg (.int i) = some (.d (.int (-i))) := rfl
@[simp] theorem pyLt_ii (i j : Int) : pyLt (.int i) (.int j) = some (.d (.bool (decide (i < j)))) := rfl
@[simp] theorem pyLe_ii (i j : Int) : pyLe (.int i) (.int j) = some (.d (.bool (decide (i ≤ j)))) := rfl
@[simp] theorem pyGt_ii (i j : Int) : pyGt (.int i) (.int j) = some (.d (.bool (decide (j < i)))) := rfl
@[simp] theorem pyGe_ii (i j : Int) : pyGe (.int i) (.int j) = some (.d (.bool (decide (j ≤ i)))) := rfl
@[simp] theorem pyEq_ii (i j : Int) : pyEq (.int i) (.int j) = some (.d (.bool (decide (i = j)))) := eq_ints i j
@[simp] theorem pyNe_ii (i j : Int) : pyNe (.int i) (.int j) = some (.d (.bool (decide (i ≠ j)))) := ne_ints i j
@[simp] theorem pyEq_tt (a b : List Int) : pyEq (.tuple (a.map .int)) (.tuple (b.map .int)) = some (.d (.bool (decide (a = b)))) := eq_tints a b
@[simp] theorem pyNe_tt (a b : List Int) : pyNe (.tuple (a.map .int)) (.tuple (b.map .int)) = some (.d (.bool (decide (a ≠ b)))) := ne_tints a b
@[simp] theorem pyEq_ll (a b : List Int) : pyEq (.list (a.map .int)) (.list (b.map .int)) = some (.d (.bool (decide (a = b)))) := eq_lints a b
@[simp] theorem pyNe_l0 (ds : List PyData) : pyNe (.list ds) (.list []) = some (.d (.bool (!ds.isEmpty))) := by
  rw [ne_nil]
  cases ds <;> rfl
@[simp] theorem pyEq_l0 (ds : List PyData) : pyEq (.list ds) (.list []) = some (.d (.bool ds.isEmpty)) := by
  cases ds with
  | nil => rfl
  | cons d ds => simp [pyEq, eqOk, otherLen, PyData.eqv, PyData.eqvAll]
@[simp] theorem len_t (ds : List PyData) : DL.pyLen [.tuple ds] = some (.d (.int (ds.length : Nat))) := rfl
@[simp] theorem len_l (ds : List PyData) : DL.pyLen [.list ds] = some (.d (.int (ds.length : Nat))) := rfl
@[simp] theorem tupOf_l (ds : List PyData) : pyTupOf [.list ds] = some (.d (.tuple ds)) := rfl
@[simp] theorem tupOf_t (ds : List PyData) : pyTupOf [.tuple ds] = some (.d (.tuple ds)) := rfl
@[simp] theorem listOf_l (ds : List PyData) : pyListOf [.list ds] = some (.fr (.list ds)) := rfl
@[simp] theorem listOf_t (ds : List PyData) : pyListOf [.tuple ds] = some (.fr (.list ds)) := rfl
@[simp] theorem sorted_t (ns : List Int) : pySorted [.tuple (ns.map .int)] = some (.fr (.list ((isort ns).map .int))) := sorted_tints ns
@[simp] theorem sorted_l (ns : List Int) : pySorted [.list (ns.map .int)] = some (.fr (.list ((isort ns).map .int))) := sorted_lints ns
@[simp] theorem all_m {α : Type} (f : α → Bool) (l : List α) : pyAll [.list (l.map fun x => .bool (f x))] = some (.d (.bool (l.all f))) := all_mapf f l
theorem any_mapf {α : Type} (f : α → Bool) (ds : List α) : pyAny [.list (ds.map fun x => .bool (f x))] = some (.d (.bool (ds.any f))) := by
  simp [pyAny, boolsOf_mapf, List.any_map]
@[simp] theorem any_m {α : Type} (f : α → Bool) (l : List α) : pyAny [.list (l.map fun x => .bool (f x))] = some (.d (.bool (l.any f))) := any_mapf f l
@[simp] theorem intsOf_m (ns : List Int) : intsOf (ns.map .int) = some ns := by
  induction ns with
  | nil => rfl
  | cons n ns ih => simp [intsOf, ih]
@[simp] theorem sum_m (ns : List Int) : pySum [.list (ns.map .int)] = some (.d (.int ns.sum)) := by simp [pySum, oneI]
@[simp] theorem int_i (i : Int) : pyInt [.int i] = some (.d (.int i)) := rfl
@[simp] theorem int_b (b : Bool) : pyInt [.bool b] = some (.d (.int (if b then 1 else 0))) := rfl
@[simp] theorem bool_b (b : Bool) : pyBool [.bool b] = some (.d (.bool b)) := rfl
@[simp] theorem rev_l (ds : List PyData) : pyRev (.list ds) = some (.fr (.list ds.reverse)) := rfl
@[simp] theorem rev_t (ds : List PyData) : pyRev (.tuple ds) = some (.d (.tuple ds.reverse)) := rfl
@[simp] theorem pyIs_nn (b : Bool) : pyIs b .none .none = some (.d (.bool (!b))) := rfl
@[simp] theorem sl_l (ds : List PyData) (i j : Option Int) : pySl (.list ds) i j = some (.fr (.list (cutD ds i j))) := rfl
@[simp] theorem sl_t (ds : List PyData) (i j : Option Int) : pySl (.tuple ds) i j = some (.d (.tuple (cutD ds i j))) := rfl
theorem add_t {a b : List PyData} (h : a.length + b.length ≤ 16777216) : pyAdd (.tuple a) (.tuple b) = some (.d (.tuple (a ++ b))) := add_tups h
theorem add_l {a b : List PyData} (h : a.length + b.length ≤ 16777216) : pyAdd (.list a) (.list b) = some (.fr (.list (a ++ b))) := add_lsts h
theorem ix_t {ns : List Int} {p : Int} (h : 0 ≤ p ∧ p < ns.length) : pyIx (.tuple (ns.map .int)) (.int p) = some (.d (.int (at0 ns p))) := by
  simp [pyIx, atI_ints h.1 h.2]
theorem ix_l {ns : List Int} {p : Int} (h : 0 ≤ p ∧ p < ns.length) : pyIx (.list (ns.map .int)) (.int p) = some (.d (.int (at0 ns p))) := by
  simp [pyIx, atI_ints h.1 h.2]
theorem appS_eq {ds : List PyData} {d : PyData} (h : ds.length < 16777216) : appS (.list ds) d = pure (.list (ds ++ [d])) := by
  show (if ds.length < sizeLine then (pure (.list (ds ++ [d])) : S PyData) else S.fail) = _
  rw [if_pos (by rw [sizeLine_eq]; exact h)]
theorem extS_eq {ds es : List PyData} (h : ds.length + es.length ≤ 16777216) : extS (.list ds) (.list es) = pure (.list (ds ++ es)) := by
  show (if ds.length + es.length ≤ sizeLine then (pure (.list (ds ++ es)) : S PyData) else S.fail) = _
  rw [if_pos (by rw [sizeLine_eq]; exact h)]
theorem rng0 {n : Nat} (h : n ≤ 16777216) : rngTo 0 (n : Int) = some ((ints0 n).map .int) := rngTo_nat h
theorem rgL_nat (f : List PyData → PyData) {n : Nat} (h : n ≤ 16777216) : sRgL f (pure (0, (n : Int))) = pure (f ((ints0 n).map .int)) := by
  unfold sRgL
  simp [rgTo_nat h]
/-- ints from i up to below j -/
def ir (i j : Int) : List Int := (List.range (j - i).toNat).map fun k : Nat => i + k
theorem rng_ir {i j : Int} (h : i.natAbs < 2 ^ 62 ∧ j.natAbs < 2 ^ 62) : rngTo i j = some ((ir i j).map .int) := by
  unfold rngTo
  rw [if_pos h]
  simp [intsFrom, ir, Function.comp_def]
theorem mem_ir {i j k : Int} : k ∈ ir i j ↔ i ≤ k ∧ k < j := by
  unfold ir
  rw [List.mem_map]
  constructor
  · rintro ⟨m, hm, rfl⟩
    have := List.mem_range.mp hm
    omega
  · rintro ⟨h0, h1⟩
    exact ⟨(k - i).toNat, List.mem_range.mpr (by omega), by omega⟩
theorem ir_length (i j : Int) : (ir i j).length = (j - i).toNat := by simp [ir]
/-! ### whatever is drawn -/
def Live (g : G) : Prop := ∃ s : Src, g = some s ∧ s.cells.length ≤ 63
def Tot {α : Type} (m : S α) (Q : α → Prop) : Prop := ∀ g, Live g → ∃ a g', m g = some (a, g') ∧ Live g' ∧ Q a
theorem Tot.pure {α : Type} {a : α} {Q : α → Prop} (h : Q a) : Tot (Pure.pure a : S α) Q := fun g hg => ⟨a, g, rfl, hg, h⟩
theorem Tot.bind {α β : Type} {m : S α} {f : α → S β} {R : α → Prop} {Q : β → Prop} (h : Tot m R) (k : ∀ a, R a → Tot (f a) Q) : Tot (m >>= f) Q := fun g hg => by
  obtain ⟨a, g1, h1, h2, h3⟩ := h g hg
  obtain ⟨b, g2, h4, h5, h6⟩ := k a h3 g1 h2
  exact ⟨b, g2, by rw [S.bind_def, h1]; exact h4, h5, h6⟩
theorem Tot.mono {α : Type} {m : S α} {R Q : α → Prop} (h : Tot m R) (k : ∀ a, R a → Q a) : Tot m Q := fun g hg =>
  let ⟨a, g', h1, h2, h3⟩ := h g hg
  ⟨a, g', h1, h2, k a h3⟩
theorem Tot.eq {α : Type} {m m' : S α} {Q : α → Prop} (h : Tot m' Q) (e : m = m') : Tot m Q := e ▸ h
inductive F2 {α β : Type} (R : α → β → Prop) : List α → List β → Prop
  | nil : F2 R [] []
  | cons {a : α} {b : β} {as : List α} {bs : List β} : R a b → F2 R as bs → F2 R (a :: as) (b :: bs)
theorem Tot.mapG {α β : Type} {f : α → S β} (R : α → β → Prop) : ∀ {l : List α}, (∀ x ∈ l, Tot (f x) (R x)) → Tot (mapG f l) fun ys => F2 R l ys
  | [], _ => Tot.pure .nil
  | x :: l, h => Tot.bind (h x (by simp)) fun y hy => Tot.bind (Tot.mapG R fun z hz => h z (List.mem_cons_of_mem _ hz)) fun ys hys => Tot.pure (.cons hy hys)
theorem forall2_all {α β : Type} {P : β → Prop} : ∀ {l : List α} {ys : List β}, F2 (fun _ y => P y) l ys → ys.length = l.length ∧ ∀ y ∈ ys, P y
  | _, _, .nil => ⟨rfl, fun _ h => by cases h⟩
  | _, _, .cons h k => by
    obtain ⟨h1, h2⟩ := forall2_all k
    exact ⟨by simp [h1], fun y hy => by rcases List.mem_cons.mp hy with rfl | hy; exact h; exact h2 y hy⟩
theorem Tot.mapA {α β : Type} {f : α → S β} (P : β → Prop) {l : List α} (h : ∀ x ∈ l, Tot (f x) P) : Tot (DL.mapG f l) fun ys => ys.length = l.length ∧ ∀ y ∈ ys, P y :=
  (Tot.mapG (fun _ y => P y) h).mono fun _ h => forall2_all h
/-- some of a list, in their sequence -/
theorem Tot.compSub {α β : Type} {f : α → S (Option β)} (h : α → β) : ∀ {l : List α}, (∀ x ∈ l, Tot (f x) fun o => o = none ∨ o = some (h x)) → Tot (compG f l) fun ys => ∃ r : List α, r.Sublist l ∧ ys = r.map h
  | [], _ => Tot.pure ⟨[], .slnil, rfl⟩
  | x :: l, k => Tot.bind (k x (by simp)) fun o ho => Tot.bind (Tot.compSub h fun z hz => k z (List.mem_cons_of_mem _ hz)) fun ys ⟨r, hr, e⟩ => Tot.pure (by
      rcases ho with rfl | rfl
      · exact ⟨r, hr.cons x, e⟩
      · exact ⟨x :: r, hr.cons_cons x, by simp [e]⟩)
theorem Tot.foldS {α σ : Type} {f : σ → α → S σ} (I : σ → Prop) : ∀ {l : List α} {v : σ}, I v → (∀ x ∈ l, ∀ v, I v → Tot (f v x) I) → Tot (foldS f l v) I
  | [], v, i, _ => Tot.pure i
  | x :: l, v, i, h => Tot.bind (h x (by simp) v i) fun w hw => Tot.foldS I hw fun y hy => h y (List.mem_cons_of_mem _ hy)
/-- a loop that always goes on -/
theorem Tot.forO {α σ κ : Type} {f : σ → α → S (Out σ σ)} (I : σ → Prop) : ∀ {l : List α} {v : σ}, I v → (∀ x ∈ l, ∀ v, I v → Tot (f v x) fun o => ∃ w, o = .nxt w ∧ I w) → Tot (forO (κ := κ) f l v) fun o => ∃ w, o = .nxt w ∧ I w
  | [], v, i, _ => Tot.pure ⟨v, rfl, i⟩
  | x :: l, v, i, h => Tot.bind (h x (by simp) v i) fun o ⟨w, e, hw⟩ => by
    subst e
    exact Tot.forO I hw fun y hy => h y (List.mem_cons_of_mem _ hy)
theorem Tot.of_pick {fm : FM} {evs : List EV} {Q : PyData → Prop} (h : ∀ g, Live g → WpF (fm evs g) fun ev g' => ∃ x, (ev = .d x ∨ (ev = .fr x ∧ isObj x = true)) ∧ Live g' ∧ Q x) (he : ∀ g, Live g → ∀ ev e g', fm evs g = .ok ev e g' → e = []) : Tot (ofFM fm evs) Q := fun g hg => by
  have h1 := h g hg
  cases q : fm evs g with
  | bad => rw [q] at h1; exact h1.elim
  | exc _ _ _ _ => rw [q] at h1; exact h1.elim
  | ok ev e g' =>
    rw [q] at h1
    obtain ⟨x, h2, h3, h4⟩ := h1
    cases he g hg ev e g' q
    refine ⟨x, g', ?_, h3, h4⟩
    unfold ofFM
    rw [q]
    rcases h2 with rfl | ⟨rfl, h2⟩
    · rfl
    · simp [h2]
theorem bodyRun_nil {n : Nat} {mb : M Fl} {evs : List EV} {g g' : G} {ev : EV} {e : Env'} (h : bodyRun n mb evs g = .ok ev e g') : e = [] := by
  unfold bodyRun at h
  split at h <;> first | (cases h; done) | (cases h; rfl)
end DL
/-! what the laws share: how long texts of data are, rows of ints compared, parts of tuples -/
namespace DL
open PySem L2
mutual
def wid : PyData → Nat
  | .list ds => max ds.length (widAll ds)
  | .tuple ds => max ds.length (widAll ds)
  | _ => 0
def widAll : List PyData → Nat
  | [] => 0
  | d :: ds => max (wid d) (widAll ds)
end
theorem widAll_le {b : Nat} : ∀ {ds : List PyData}, (∀ d ∈ ds, wid d ≤ b) → widAll ds ≤ b
  | [], _ => by simp [widAll]
  | d :: ds, h => by
    have h1 := h d (by simp)
    have h2 := widAll_le (ds := ds) fun x hx => h x (List.mem_cons_of_mem _ hx)
    rw [widAll]
    omega
theorem wid_mem : ∀ {ds : List PyData} {d : PyData}, d ∈ ds → wid d ≤ widAll ds
  | e :: ds, d, h => by
    rw [widAll]
    rcases List.mem_cons.mp h with rfl | h
    · omega
    · have := wid_mem h; omega
/-- what repr asks, with bounds -/
structure Rk (d b : Nat) (x : PyData) : Prop where
  sh : x.showable = true
  dp : x.depth ≤ d
  ln : x.shown.length ≤ b
  wd : wid x ≤ b
theorem Rk.mono {d b d' b' : Nat} {x : PyData} (h : Rk d b x) (h1 : d ≤ d') (h2 : b ≤ b') : Rk d' b' x := ⟨h.sh, Nat.le_trans h.dp h1, Nat.le_trans h.ln h2, Nat.le_trans h.wd h2⟩
theorem Rk.wT {d b : Nat} {ds : List PyData} (h : Rk d b (.tuple ds)) : ds.length ≤ b ∧ ∀ e ∈ ds, wid e ≤ b := by
  have h1 := h.wd
  rw [wid] at h1
  exact ⟨by omega, fun e he => by have := wid_mem he; omega⟩
theorem wid_T {b : Nat} {ds : List PyData} (h : wid (.tuple ds) ≤ b) : ds.length ≤ b ∧ ∀ e ∈ ds, wid e ≤ b := by
  rw [wid] at h
  exact ⟨by omega, fun e he => by have := wid_mem he; omega⟩
theorem Rk.ok {d b : Nat} {x : PyData} (h : Rk d b x) (h1 : d ≤ 60) (h2 : b ≤ 16777216) : reprOk x = true := by
  unfold reprOk
  rw [h.sh, decide_eq_true (Nat.le_trans h.dp h1), decide_eq_true (show x.shown.length ≤ sizeLine by rw [sizeLine_eq]; exact Nat.le_trans h.ln h2)]
  rfl
theorem Rk.atom {x : PyData} (h : atomOk x = true) : Rk 1 60 x := let ⟨a, b, c⟩ := atom_shown h; ⟨a, b, c, by cases x <;> first | (cases h; done) | simp [wid]⟩
theorem Rk.int {i : Int} (h : i.natAbs < 10 ^ 40) : Rk 1 60 (.int i) := Rk.atom (decide_eq_true h)
theorem Rk.none : Rk 1 60 .none := Rk.atom rfl
theorem Rk.bool (b : Bool) : Rk 1 60 (.bool b) := Rk.atom rfl
theorem Rk.core {d b : Nat} {ds : List PyData} (h : ∀ x ∈ ds, Rk d b x) : PyData.showableAll ds = true ∧ PyData.depthAll ds ≤ d ∧ ∀ t ∈ PyData.shownAll ds, t.length ≤ b :=
  ⟨showableAll_of fun x hx => (h x hx).sh, depthAll_le fun x hx => (h x hx).dp, fun t ht => by
    obtain ⟨x, hx, rfl⟩ := shownAll_mem ht
    exact (h x hx).ln⟩
theorem wid_seq {d b n : Nat} {ds : List PyData} (h : ∀ x ∈ ds, Rk d b x) (hn : ds.length ≤ n) : max ds.length (widAll ds) ≤ 4 + n * (b + 2) := by
  by_cases z : ds = []
  · subst z; simp [widAll]
  · have h1 := widAll_le fun x hx => (h x hx).wd
    have hp : 0 < ds.length := List.length_pos_iff.mpr z
    have h2 : 1 * (b + 2) ≤ n * (b + 2) := Nat.mul_le_mul_right _ (by omega)
    have h3 : n * 2 ≤ n * (b + 2) := Nat.mul_le_mul_left _ (by omega)
    omega
theorem Rk.tup {d b n : Nat} {ds : List PyData} (h : ∀ x ∈ ds, Rk d b x) (hn : ds.length ≤ n) : Rk (d + 1) (4 + n * (b + 2)) (.tuple ds) := by
  obtain ⟨h1, h2, h3⟩ := Rk.core h
  refine ⟨by simpa [PyData.showable] using h1, by simp only [PyData.depth]; omega, ?_, wid_seq h hn⟩
  have h4 := tupleText_le h3
  rw [shownAll_len] at h4
  simp only [PyData.shown]
  have h5 : ds.length * (b + 2) ≤ n * (b + 2) := Nat.mul_le_mul_right _ hn
  omega
theorem Rk.lst {d b n : Nat} {ds : List PyData} (h : ∀ x ∈ ds, Rk d b x) (hn : ds.length ≤ n) : Rk (d + 1) (4 + n * (b + 2)) (.list ds) := by
  obtain ⟨h1, h2, h3⟩ := Rk.core h
  refine ⟨by simpa [PyData.showable] using h1, by simp only [PyData.depth]; omega, ?_, wid_seq h hn⟩
  have h4 := listText_le h3
  rw [shownAll_len] at h4
  simp only [PyData.shown]
  have h5 : ds.length * (b + 2) ≤ n * (b + 2) := Nat.mul_le_mul_right _ hn
  omega
/-! bounds, worked out -/
mutual
def rok : PyData → Bool
  | .tuple ds => rokAll ds
  | .list ds => rokAll ds
  | x => atomOk x
def rokAll : List PyData → Bool
  | [] => true
  | d :: ds => rok d && rokAll ds
end
mutual
def rz : PyData → Nat
  | .tuple ds => 4 + ds.length * (rzAll ds + 2)
  | .list ds => 4 + ds.length * (rzAll ds + 2)
  | _ => 60
def rzAll : List PyData → Nat
  | [] => 0
  | d :: ds => max (rz d) (rzAll ds)
end
mutual
def rdp : PyData → Nat
  | .tuple ds => rdpAll ds + 1
  | .list ds => rdpAll ds + 1
  | _ => 1
def rdpAll : List PyData → Nat
  | [] => 0
  | d :: ds => max (rdp d) (rdpAll ds)
end
mutual
theorem rk_of : ∀ x : PyData, rok x = true → Rk (rdp x) (rz x) x
  | .tuple ds, h => by
    rw [rdp, rz]
    exact Rk.tup (rk_all ds (by rw [rok] at h; exact h)) (Nat.le_refl _)
  | .list ds, h => by
    rw [rdp, rz]
    exact Rk.lst (rk_all ds (by rw [rok] at h; exact h)) (Nat.le_refl _)
  | .none, h => by rw [rdp, rz]; exact Rk.atom (by rw [rok] at h; exact h; all_goals nofun); all_goals nofun
  | .bool _, h => by rw [rdp, rz]; exact Rk.atom (by rw [rok] at h; exact h; all_goals nofun); all_goals nofun
  | .int _, h => by rw [rdp, rz]; exact Rk.atom (by rw [rok] at h; exact h; all_goals nofun); all_goals nofun
  | .str _, h => by rw [rdp, rz]; exact Rk.atom (by rw [rok] at h; exact h; all_goals nofun); all_goals nofun
  | .dict _, h => by rw [rdp, rz]; exact Rk.atom (by rw [rok] at h; exact h; all_goals nofun); all_goals nofun
theorem rk_all : ∀ ds : List PyData, rokAll ds = true → ∀ x ∈ ds, Rk (rdpAll ds) (rzAll ds) x
  | [], _, x, hx => by cases hx
  | d :: ds, h, x, hx => by
    rw [rokAll, Bool.and_eq_true] at h
    rw [rdpAll, rzAll]
    rcases List.mem_cons.mp hx with e | hx
    · rw [e]; exact (rk_of d h.1).mono (Nat.le_max_left _ _) (Nat.le_max_left _ _)
    · exact (rk_all ds h.2 x hx).mono (Nat.le_max_right _ _) (Nat.le_max_right _ _)
end
def rkOk (d b : Nat) (x : PyData) : Bool := rok x && decide (rdp x ≤ d) && decide (rz x ≤ b)
theorem rkOk_of {d b : Nat} {x : PyData} (h : rkOk d b x = true) : Rk d b x := by
  unfold rkOk at h
  rw [Bool.and_eq_true, Bool.and_eq_true, decide_eq_true_eq, decide_eq_true_eq] at h
  exact (rk_of x h.1.1).mono h.1.2 h.2
theorem repr_eq {x : PyData} (h : reprOk x = true) : pyRepr1 x = some (.d (.str x.shown)) := by
  unfold pyRepr1
  rw [if_pos h]
theorem ne_strs (a b : Str) : pyNe (.str a) (.str b) = some (.d (.bool (!PyData.eqv (.str a) (.str b)))) := by
  unfold pyNe eqOk texts2
  simp
theorem eqv_str (a : Str) : PyData.eqv (.str a) (.str a) = true := by simp [PyData.eqv]
@[simp] theorem ne_str_self (a : Str) : pyNe (.str a) (.str a) = some (.d (.bool false)) := by
  rw [ne_strs, eqv_str]; rfl
@[simp] theorem pyLt_tt (a b : List Int) : pyLt (.tuple (a.map .int)) (.tuple (b.map .int)) = some (.d (.bool (decide (a < b)))) := ltX_tints a b
@[simp] theorem pyGt_tt (a b : List Int) : pyGt (.tuple (a.map .int)) (.tuple (b.map .int)) = some (.d (.bool (decide (b < a)))) := gtX_tints a b
@[simp] theorem pyLe_tt (a b : List Int) : pyLe (.tuple (a.map .int)) (.tuple (b.map .int)) = some (.d (.bool (!decide (b < a)))) := leX_tints a b
@[simp] theorem pyGe_tt (a b : List Int) : pyGe (.tuple (a.map .int)) (.tuple (b.map .int)) = some (.d (.bool (!decide (a < b)))) := geX_tints a b
/-! parts of a list, by ints -/
theorem cut_from {ds : List PyData} {k : Nat} (hk : k ≤ ds.length) : cutD ds (some (k : Int)) none = ds.drop k := by
  unfold cutD
  rw [HT.sIx_nat, HT.sIx_none, Nat.min_eq_left hk]
  exact List.take_of_length_le (by simp)
theorem cut_upto {ds : List PyData} {k : Nat} (hk : k ≤ ds.length) : cutD ds none (some (k : Int)) = ds.take k := by
  unfold cutD
  rw [HT.sIx_none, HT.sIx_nat, Nat.min_eq_left hk, List.drop_zero, Nat.sub_zero]
theorem cutD_sub {ds : List PyData} {lo hi : Option Int} {d : PyData} (h : d ∈ cutD ds lo hi) : d ∈ ds := List.mem_of_mem_drop (List.mem_of_mem_take h)
theorem cutD_len (ds : List PyData) (lo hi : Option Int) : (cutD ds lo hi).length ≤ ds.length := by
  unfold cutD
  rw [List.length_take, List.length_drop]
  omega
/-- rows of ints among rows -/
theorem any_rows (r : List Int) (rows : List (List Int)) : ((rows.map ti).any fun z => PyData.eqv z (ti r)) = decide (r ∈ rows) := by
  rw [List.any_map]
  induction rows with
  | nil => simp
  | cons q rows ih =>
    rw [List.any_cons, ih]
    simp only [Function.comp_def, ti, PyData.eqv, eqvAll_ints, List.mem_cons]
    by_cases h1 : q = r <;> by_cases h2 : r ∈ rows <;> simp [h1, h2, Ne.symm, eq_comm]
theorem canLayAll_of : ∀ {ds : List PyData}, (∀ d ∈ ds, d.canLay0 = true) → PyData.canLayAll0 ds = true
  | [], _ => by simp [PyData.canLayAll0]
  | d :: ds, h => by
    rw [PyData.canLayAll0, h d (by simp), canLayAll_of fun x hx => h x (List.mem_cons_of_mem _ hx)]
    rfl
theorem canLay_ti (ns : List Int) : (ti ns).canLay0 = true := by simp [PyData.canLay0, canLay_ints]
theorem depth_ti (ns : List Int) : (ti ns).depth ≤ 1 := by
  rw [PyData.depth, depth_ints]
  exact Nat.le_refl _
theorem shaped_rowsT (rows : List (List Int)) : SeqAt.shaped (.tuple (rows.map ti)) = true := by
  have h1 : PyData.canLayAll0 (rows.map ti) = true := canLayAll_of fun d hd => by obtain ⟨r, _, rfl⟩ := List.mem_map.mp hd; exact canLay_ti r
  have h2 : PyData.depthAll (rows.map ti) ≤ 1 := depthAll_le fun d hd => by obtain ⟨r, _, rfl⟩ := List.mem_map.mp hd; exact depth_ti r
  unfold SeqAt.shaped
  simp only [PyData.canLay0, PyData.depth, h1, Bool.true_and, decide_eq_true_eq, Bool.and_eq_true]
  simp
  omega
theorem shaped_rowsL (rows : List (List Int)) : SeqAt.shaped (.list (rows.map ti)) = true := by
  have h1 : PyData.canLayAll0 (rows.map ti) = true := canLayAll_of fun d hd => by obtain ⟨r, _, rfl⟩ := List.mem_map.mp hd; exact canLay_ti r
  have h2 : PyData.depthAll (rows.map ti) ≤ 1 := depthAll_le fun d hd => by obtain ⟨r, _, rfl⟩ := List.mem_map.mp hd; exact depth_ti r
  unfold SeqAt.shaped
  simp only [PyData.canLay0, PyData.depth, h1, Bool.true_and, decide_eq_true_eq, Bool.and_eq_true]
  simp
  omega
theorem in_rowsT (b : Bool) (r : List Int) (rows : List (List Int)) : pyIn b (ti r) (.tuple (rows.map ti)) = some (.d (.bool (b != decide (r ∈ rows)))) := by
  simp only [pyIn, shaped_tints, shaped_rowsT, Bool.and_self, if_true, any_rows]
theorem in_rowsL (b : Bool) (r : List Int) (rows : List (List Int)) : pyIn b (ti r) (.list (rows.map ti)) = some (.d (.bool (b != decide (r ∈ rows)))) := by
  simp only [pyIn, shaped_tints, shaped_rowsL, Bool.and_self, if_true, any_rows]
/-! plain data: one is the other just if they are one -/
mutual
def pl : PyData → Bool
  | .none => true
  | .int _ => true
  | .str _ => true
  | .tuple ds => plAll ds
  | .list ds => plAll ds
  | _ => false
def plAll : List PyData → Bool
  | [] => true
  | d :: ds => pl d && plAll ds
end
theorem pl_all {ds : List PyData} (h : ∀ d ∈ ds, pl d = true) : plAll ds = true := by
  induction ds with
  | nil => rfl
  | cons d ds ih => rw [plAll, h d (by simp), ih fun x hx => h x (List.mem_cons_of_mem _ hx)]; rfl
mutual
theorem eqv_pl : ∀ x y : PyData, pl x = true → pl y = true → (PyData.eqv x y = true ↔ x = y)
  | .none, y, hx, hy => by cases y <;> simp [PyData.eqv]
  | .int i, y, hx, hy => by
    cases y <;> first | (simp [PyData.eqv]; done) | (cases hy; done)
  | .str z, y, hx, hy => by
    cases y <;> first | (simp [PyData.eqv]; done) | (cases hy; done)
  | .tuple ds, y, hx, hy => by
    cases y <;> first | (simp [PyData.eqv]; done) | (cases hy; done) | skip
    rename_i es
    rw [PyData.eqv, eqv_plAll ds es (by rw [pl] at hx; exact hx) (by rw [pl] at hy; exact hy)]
    simp
  | .list ds, y, hx, hy => by
    cases y <;> first | (simp [PyData.eqv]; done) | (cases hy; done) | skip
    rename_i es
    rw [PyData.eqv, eqv_plAll ds es (by rw [pl] at hx; exact hx) (by rw [pl] at hy; exact hy)]
    simp
  | .bool _, _, hx, _ => by cases hx
  | .dict _, _, hx, _ => by cases hx
theorem eqv_plAll : ∀ x y : List PyData, plAll x = true → plAll y = true → (PyData.eqvAll x y = true ↔ x = y)
  | [], [], _, _ => by simp [PyData.eqvAll]
  | [], _ :: _, _, _ => by simp [PyData.eqvAll]
  | _ :: _, [], _, _ => by simp [PyData.eqvAll]
  | x :: xs, y :: ys, hx, hy => by
    rw [plAll, Bool.and_eq_true] at hx hy
    rw [PyData.eqvAll, Bool.and_eq_true, eqv_pl x y hx.1 hy.1, eqv_plAll xs ys hx.2 hy.2]
    simp
end
/-- data that can be compared: plain, not too deep -/
structure Cm (k : Nat) (x : PyData) : Prop where
  p : pl x = true
  c : x.canLay0 = true
  d : x.depth ≤ k
theorem Cm.int (i : Int) : Cm 0 (.int i) := ⟨rfl, by simp [PyData.canLay0], by simp [PyData.depth]⟩
theorem Cm.none : Cm 0 .none := ⟨rfl, by simp [PyData.canLay0], by simp [PyData.depth]⟩
theorem Cm.up {j k : Nat} {x : PyData} (h : Cm j x) (e : j ≤ k) : Cm k x := ⟨h.p, h.c, Nat.le_trans h.d e⟩
theorem Cm.tup {k : Nat} {ds : List PyData} (h : ∀ d ∈ ds, Cm k d) : Cm (k + 1) (.tuple ds) :=
  ⟨by rw [pl]; exact pl_all fun d hd => (h d hd).p, by simpa [PyData.canLay0] using canLayAll_of fun d hd => (h d hd).c, by
    have := depthAll_le fun d hd => (h d hd).d
    rw [PyData.depth]; omega⟩
theorem Cm.lst {k : Nat} {ds : List PyData} (h : ∀ d ∈ ds, Cm k d) : Cm (k + 1) (.list ds) :=
  ⟨by rw [pl]; exact pl_all fun d hd => (h d hd).p, by simpa [PyData.canLay0] using canLayAll_of fun d hd => (h d hd).c, by
    have := depthAll_le fun d hd => (h d hd).d
    rw [PyData.depth]; omega⟩
theorem Cm.shaped {k : Nat} {x : PyData} (h : Cm k x) (hk : k ≤ 64) : SeqAt.shaped x = true := by
  unfold SeqAt.shaped
  rw [h.c, decide_eq_true (Nat.le_trans h.d hk)]
  rfl
theorem eq_cmp {j k : Nat} {x y : PyData} {b : Bool} (hx : Cm j x) (hy : Cm k y) (hb : b = true ↔ x = y) (h1 : j ≤ 64 := by omega) (h2 : k ≤ 64 := by omega) : pyEq x y = some (.d (.bool b)) := by
  have e : PyData.eqv x y = b := Bool.eq_iff_iff.mpr ((eqv_pl x y hx.p hy.p).trans hb.symm)
  unfold pyEq eqOk
  rw [hx.shaped h1, hy.shaped h2, e]
  rfl
theorem ne_cmp {j k : Nat} {x y : PyData} {b : Bool} (hx : Cm j x) (hy : Cm k y) (hb : b = true ↔ x = y) (h1 : j ≤ 64 := by omega) (h2 : k ≤ 64 := by omega) : pyNe x y = some (.d (.bool !b)) := by
  have e : PyData.eqv x y = b := Bool.eq_iff_iff.mpr ((eqv_pl x y hx.p hy.p).trans hb.symm)
  unfold pyNe eqOk
  rw [hx.shaped h1, hy.shaped h2, e]
  rfl
/-- ints of many figures -/
theorem Rk.intB {m : Nat} {i : Int} (h : i.natAbs < 10 ^ m) (hm : m ≤ 500) : Rk 1 (m + 2) (.int i) := by
  have h2 : i.natAbs.log2 < 1920 := by
    by_cases z : i.natAbs = 0
    · rw [z]; decide
    · refine (Nat.log2_lt z).mpr (Nat.lt_of_lt_of_le h (Nat.le_trans (Nat.pow_le_pow_right (by decide) hm) ?_))
      decide +kernel
  refine ⟨by simp [PyData.showable, h2], by simp [PyData.depth], ?_, by simp [wid]⟩
  by_cases hz : m = 0
  · subst hz
    have : i = 0 := by have : i.natAbs < 1 := h; omega
    subst this
    simp only [PyData.shown]; decide
  · have := int_text_length_le10 (a := i) (k := m) (by omega) h
    simp only [PyData.shown]
    show (Str.ofString (toString i)).length ≤ m + 2
    rw [ofString_length]
    omega
/-! data that is told: rows within rows of small ints -/
def Told (w : Nat) : Nat → PyData → Prop
  | 0, x => ∃ i : Int, x = .int i ∧ i.natAbs < 10 ^ 39
  | k + 1, x => (∃ i : Int, x = .int i ∧ i.natAbs < 10 ^ 39) ∨ ∃ ds, x = .tuple ds ∧ ds.length < w ∧ ∀ d ∈ ds, Told w k d
def Bw (w : Nat) : Nat → Nat
  | 0 => 200
  | k + 1 => 4 + w * (Bw w k + 2)
theorem Bw_mono (w : Nat) (hw : 0 < w) (k : Nat) : Bw w k ≤ Bw w (k + 1) := by
  show Bw w k ≤ 4 + w * (Bw w k + 2)
  have : 1 * (Bw w k + 2) ≤ w * (Bw w k + 2) := Nat.mul_le_mul_right _ hw
  omega
theorem Bw_ge (w : Nat) (hw : 0 < w) : ∀ k : Nat, 200 ≤ Bw w k
  | 0 => Nat.le_refl _
  | k + 1 => Nat.le_trans (Bw_ge w hw k) (Bw_mono w hw k)
abbrev RB (w k : Nat) (x : PyData) : Prop := Rk (k + 4) (Bw w k) x
theorem RB.up {w k : Nat} {x : PyData} (hw : 0 < w) (h : RB w k x) : RB w (k + 1) x := Rk.mono h (by omega) (Bw_mono w hw k)
theorem RB.tup {w k : Nat} {ds : List PyData} (h : ∀ x ∈ ds, RB w k x) (hn : ds.length ≤ w) : RB w (k + 1) (.tuple ds) := (Rk.tup h hn).mono (by omega) (Nat.le_refl _)
theorem RB.lst {w k : Nat} {ds : List PyData} (h : ∀ x ∈ ds, RB w k x) (hn : ds.length ≤ w) : RB w (k + 1) (.list ds) := (Rk.lst h hn).mono (by omega) (Nat.le_refl _)
theorem RB.int {w k : Nat} {i : Int} (hw : 0 < w) (h : i.natAbs < 10 ^ 40) : RB w k (.int i) := (Rk.int h).mono (by omega) (by have := Bw_ge w hw k; omega)
theorem Told.rb {w : Nat} (hw : 0 < w) : ∀ {k : Nat} {x : PyData}, Told w k x → RB w k x
  | 0, x, ⟨i, e, h⟩ => by subst e; exact RB.int hw (Nat.lt_trans h (by decide))
  | k + 1, x, .inl ⟨i, e, h⟩ => by subst e; exact RB.int hw (Nat.lt_trans h (by decide))
  | k + 1, x, .inr ⟨ds, e, h1, h2⟩ => by subst e; exact RB.tup (fun d hd => Told.rb hw (h2 d hd)) (by omega)
theorem Told.up {w : Nat} : ∀ {k : Nat} {x : PyData}, Told w k x → Told w (k + 1) x
  | 0, x, h => .inl h
  | k + 1, x, .inl h => .inl h
  | k + 1, x, .inr ⟨ds, e, h1, h2⟩ => .inr ⟨ds, e, h1, fun d hd => Told.up (h2 d hd)⟩
theorem Told.cl {w : Nat} : ∀ {k : Nat} {x : PyData}, Told w k x → x.canLay0 = true ∧ x.depth ≤ k
  | 0, x, ⟨i, e, h⟩ => by subst e; simp [PyData.canLay0, PyData.depth]
  | k + 1, x, .inl ⟨i, e, h⟩ => by subst e; simp [PyData.canLay0, PyData.depth]
  | k + 1, x, .inr ⟨ds, e, h1, h2⟩ => by
    subst e
    have a : PyData.canLayAll0 ds = true := canLayAll_of fun d hd => (Told.cl (h2 d hd)).1
    have b : PyData.depthAll ds ≤ k := depthAll_le fun d hd => (Told.cl (h2 d hd)).2
    exact ⟨by simpa [PyData.canLay0] using a, by rw [PyData.depth]; omega⟩
theorem Told.shaped {w k : Nat} {x : PyData} (h : Told w k x) (hk : k ≤ 20) : SeqAt.shaped x = true := by
  obtain ⟨h1, h2⟩ := h.cl
  unfold SeqAt.shaped
  simp only [h1, Bool.true_and, decide_eq_true_eq, Bool.and_eq_true]
  first | omega | (simp; omega)
theorem eq_tup0 {ds : List PyData} (h : SeqAt.shaped (.tuple ds) = true) : pyEq (.tuple ds) (.tuple []) = some (.d (.bool (decide (ds = [])))) := by
  have e : PyData.eqv (.tuple ds) (.tuple []) = decide (ds = []) := by cases ds <;> simp [PyData.eqv, PyData.eqvAll]
  unfold pyEq eqOk
  rw [h, show SeqAt.shaped (.tuple []) = true by decide, e]
  rfl
theorem told_ti {w : Nat} {ns : List Int} (hl : ns.length < w) (h : ∀ i ∈ ns, i.natAbs < 10 ^ 39) : Told w 1 (ti ns) :=
  .inr ⟨_, rfl, by simpa using hl, fun d hd => by obtain ⟨i, hi, rfl⟩ := List.mem_map.mp hd; exact ⟨i, rfl, h i hi⟩⟩
/-! draws within expressions -/
theorem bin_p (g : PyData → PyData → Option RV) (a : PyData) (s : S PyData) : sBin g (pure a) s = s >>= fun y => sOp (g a y) := by unfold sBin; simp
theorem bin_q (g : PyData → PyData → Option RV) (b : PyData) (s : S PyData) : sBin g s (pure b) = s >>= fun x => sOp (g x b) := by unfold sBin; simp
theorem callB_b (g : List PyData → Option RV) (s : S PyData) : sCallB g (sCons s (pure [])) = s >>= fun x => sOp (g [x]) := by unfold sCallB sCons; simp
theorem bool_b' (s : S PyData) : sBool s = s >>= boolS := rfl
theorem andT_p (b : Bool) (s : S Bool) : sAndT (pure b) s = if b then s else pure false := rfl
theorem tup_b (s : S PyData) : sTup (sCons s (pure [])) = s >>= fun x => pure (.tuple [x]) := by
  unfold sTup sCons
  simp
theorem cons_b (s : S PyData) (r : S (List PyData)) : sCons s r = s >>= fun x => r >>= fun xs => pure (x :: xs) := rfl
end DL
namespace DL
open PySem L2
/-! own dicts with tuples as keys -/
def keysOf : List PyData → Option (List Key)
  | [] => some []
  | .int i :: r => (keysOf r).map fun ks => Sum.inl i :: ks
  | .str s :: r => (keysOf r).map fun ks => Sum.inr s :: ks
  | _ :: _ => none
def keyT : PyData → Option (List Key)
  | .tuple ds => keysOf ds
  | _ => none
theorem keysOf_keyD : ∀ k : List Key, keysOf (k.map keyD) = some k
  | [] => rfl
  | .inl i :: k => by rw [List.map_cons]; show (keysOf _).map _ = _; rw [keysOf_keyD k]; rfl
  | .inr i :: k => by rw [List.map_cons]; show (keysOf _).map _ = _; rw [keysOf_keyD k]; rfl
theorem keyT_keyD (k : List Key) : keyT (.tuple (k.map keyD)) = some k := keysOf_keyD k
theorem keysOf_inv : ∀ {ds : List PyData} {k : List Key}, keysOf ds = some k → ds = k.map keyD
  | [], k, h => by cases h; rfl
  | .int i :: r, k, h => by
    obtain ⟨ks, h1, rfl⟩ := Option.map_eq_some_iff.mp h
    rw [List.map_cons, keysOf_inv h1]; rfl
  | .str i :: r, k, h => by
    obtain ⟨ks, h1, rfl⟩ := Option.map_eq_some_iff.mp h
    rw [List.map_cons, keysOf_inv h1]; rfl
  | .none :: _, _, h => by cases h
  | .bool _ :: _, _, h => by cases h
  | .list _ :: _, _, h => by cases h
  | .tuple _ :: _, _, h => by cases h
  | .dict _ :: _, _, h => by cases h
theorem keyT_inv {x : PyData} {k : List Key} (h : keyT x = some k) : x = .tuple (k.map keyD) := by
  unfold keyT at h
  split at h
  · rw [keysOf_inv h]
  · cases h
abbrev TD := List (PyData × PyData)
def getT : TD → List Key → Option PyData
  | [], _ => none
  | p :: r, k => if keyT p.1 = some k then some p.2 else getT r k
def putT (r : TD) (k : List Key) (v : PyData) : TD :=
  if (getT r k).isSome = true then r.map fun p => if keyT p.1 = some k then (p.1, v) else p else r ++ [(.tuple (k.map keyD), v)]
theorem rep_kV {K : PySem.W.Frag} {F : Hp} : ∀ k : Key, Rep K F (kV k) (keyD k)
  | .inl i => rep_int.mpr rfl
  | .inr s => rep_str.mpr rfl
theorem rep_kVs {K : PySem.W.Frag} {F : Hp} (k : List Key) : RepL K F (k.map kV) (k.map keyD) := RepL.of_map rep_kV k
theorem rep_kV_inj {K : PySem.W.Frag} {F : Hp} : ∀ {k : List Key} {vs : List V}, RepL K F vs (k.map keyD) → vs = k.map kV
  | [], vs, h => repL_nil.mp h
  | .inl i :: k, vs, h => by
    obtain ⟨v, r, rfl, q, t⟩ := repL_cons.mp h
    rw [rep_int.mp q, rep_kV_inj t]; rfl
  | .inr i :: k, vs, h => by
    obtain ⟨v, r, rfl, q, t⟩ := repL_cons.mp h
    rw [rep_str.mp q, rep_kV_inj t]; rfl
/-- a key's tuple -/
theorem key_at {K : PySem.W.Frag} {F : Hp} {v : V} {x : PyData} {k : List Key} (h : Rep K F v x) (e : keyT x = some k) : ∃ b, v = V.ref b ∧ F b = some (.tup (k.map kV)) := by
  rw [keyT_inv e] at h
  obtain ⟨b, vs, rfl, q, r⟩ := rep_tup.mp h
  rw [rep_kV_inj r] at q
  exact ⟨b, rfl, q⟩
section
variable {K : PySem.W.Frag} {F : Hp}
theorem RepT.get : ∀ {r : TD} {kv : List (List Key × V)} (k : List Key), RepT K F kv r → (valV kv k = none ∧ getT r k = none) ∨ ∃ v d, valV kv k = some v ∧ getT r k = some d ∧ Rep K F v d
  | [], kv, k, h => by
    have h : kv = [] := h
    subst h
    exact .inl ⟨rfl, rfl⟩
  | p :: r, kv, k, h => by
    obtain ⟨k', v, t, rfl, e, q, u⟩ := h
    have hk : keyT p.1 = some k' := by rw [e]; exact keyT_keyD k'
    by_cases hz : k' = k
    · subst hz
      exact .inr ⟨v, p.2, valV_pos rfl, by unfold getT; rw [if_pos hk], q⟩
    · have hn : ¬ keyT p.1 = some k := fun z => hz (Option.some.inj (hk.symm.trans z))
      rw [valV_neg hz]
      unfold getT
      rw [if_neg hn]
      exact RepT.get k u
theorem RepT.map {k : List Key} {v : V} {d : PyData} (hv : Rep K F v d) : ∀ {r : TD} {kv : List (List Key × V)}, RepT K F kv r → RepT K F (kv.map fun kv => if kv.1 = k then (kv.1, v) else kv) (r.map fun p => if keyT p.1 = some k then (p.1, d) else p)
  | [], kv, h => by
    have h : kv = [] := h
    subst h; rfl
  | p :: r, kv, h => by
    obtain ⟨k', u, t, rfl, e, q, w⟩ := h
    have hk : keyT p.1 = some k' := by rw [e]; exact keyT_keyD k'
    rw [List.map_cons, List.map_cons]
    by_cases hz : k' = k
    · subst hz
      rw [if_pos rfl, if_pos hk]
      exact ⟨k', v, _, rfl, e, hv, RepT.map hv w⟩
    · rw [if_neg hz, if_neg (fun z => hz (Option.some.inj (hk.symm.trans z)))]
      exact ⟨k', u, _, rfl, e, q, RepT.map hv w⟩
theorem RepT.snoc {k : List Key} {v : V} {d : PyData} (hv : Rep K F v d) : ∀ {r : TD} {kv : List (List Key × V)}, RepT K F kv r → RepT K F (kv ++ [(k, v)]) (r ++ [(.tuple (k.map keyD), d)])
  | [], kv, h => by
    have h : kv = [] := h
    subst h
    exact ⟨k, v, [], rfl, rfl, hv, rfl⟩
  | p :: r, kv, h => by
    obtain ⟨k', u, t, rfl, e, q, w⟩ := h
    exact ⟨k', u, _, rfl, e, q, RepT.snoc hv w⟩
theorem RepT.put {r : TD} {kv : List (List Key × V)} {k : List Key} {v : V} {d : PyData} (h : RepT K F kv r) (hv : Rep K F v d) : RepT K F (putK kv k v) (putT r k d) := by
  have hany := valV_any k kv
  unfold putK putT
  rcases h.get k with ⟨h1, h2⟩ | ⟨u, x, h1, h2, _⟩
  · rw [hany, h1, h2, if_neg (by simp), if_neg (by simp)]
    exact h.snoc hv
  · rw [hany, h1, h2, if_pos (by simp), if_pos (by simp)]
    exact h.map hv
theorem RepT.length : ∀ {r : TD} {kv : List (List Key × V)}, RepT K F kv r → kv.length = r.length
  | [], kv, h => by
    have h : kv = [] := h
    rw [h]; rfl
  | p :: r, kv, h => by
    obtain ⟨k', u, t, rfl, e, q, w⟩ := h
    simp [RepT.length w]
end
def mkT (r : TD) : PyData := .dict ((.none, .none) :: r)
def slotT (i : Nat) (env : Env') : Option TD := match env[i]? with
  | some (.own (.dict ((.none, .none) :: r))) => some r
  | _ => none
theorem slotT_eq {i : Nat} {env : Env'} {r : TD} (h : slotT i env = some r) : env[i]? = some (.own (mkT r)) := by
  unfold slotT at h
  split at h
  · cases h; assumption
  · cases h
section
variable {X : Cx} {C : DCx}
theorem Rel.ownT {i : Nat} {σ : L2.St} {F H : Hp} {l : Loc} {env : Env'} {g : G} {r : TD} (R : Rel C σ F H l env g) (e : env[i]? = some (.own (mkT r))) : ∃ a kv, σ[i]? = some (some (V.ref a)) ∧ H a = some (.dT kv) ∧ RepT C.K F kv r := by
  obtain ⟨a, h1, h2, _⟩ := R.own i _ e
  obtain ⟨kv, h3, h4⟩ := h2.dT
  exact ⟨a, kv, h1, h3, h4⟩
/-- an own object written -/
theorem Rel.putO {i : Nat} {x y : PyData} {a : Addr} {o : HO} {σ : L2.St} {F H : Hp} {l : Loc} {env : Env'} {g : G} (R : Rel C σ F H l env g) (e : env[i]? = some (Slot.own x)) (ha : σ[i]? = some (some (V.ref a))) (r : OwnRep C.K F (upd H a o) a y) :
    Rel C σ F (upd H a o) l (env.set i (Slot.own y)) g ∧ Ext σ F H l env F (upd H a o) l (env.set i (Slot.own y)) := by
  obtain ⟨b, h1, h2, h3, h4, h5⟩ := R.own i x e
  rw [ha] at h1
  cases h1
  have oa : OwnAt σ env a := ⟨i, x, e, ha⟩
  refine ⟨⟨fun b w q => ?_, by rw [List.length_set]; exact R.len, fun j y1 q => ?_, fun j y1 q => ?_, fun j k y1 z1 b q1 q2 => ?_, fun j ns q => ?_, fun j bb q => ?_, ?_, fun b o q ns => ?_, fun b q => ?_, R.f0, R.fo, R.lo, R.l0⟩,
    ⟨.refl _, fun b q => ?_, fun b o q n1 _ => ?_, fun b q => .inl q, fun b ⟨j, y, q, hq⟩ => ?_, fun _ q => q, fun _ q => .inl q⟩⟩
  · have hb : b ≠ a := ne_of_none q h3
    rw [upd_ne hb]
    exact R.sub _ _ q
  · rcases get_set_cases q with ⟨z, w⟩ | ⟨z, q⟩
    · cases w
    · exact R.dat j y1 q
  · rcases get_set_cases q with ⟨z, w⟩ | ⟨z, q⟩
    · subst z
      cases w
      exact ⟨a, ha, r, h3, h4, h5⟩
    · obtain ⟨b, g1, g2, g3, g4, g5⟩ := R.own j y1 q
      have hb : b ≠ a := fun w => z (R.inj i j x y1 a e q ha (by rw [← w]; exact g1))
      exact ⟨b, g1, g2.up (.refl _) fun o q => by rw [upd_ne hb]; exact q, g3, g4, g5⟩
  · have lift : ∀ {j : Nat} {y' : PyData}, (env.set i (Slot.own y))[j]? = some (Slot.own y') → ∃ y', env[j]? = some (Slot.own y') := fun q => by
      rcases get_set_cases q with ⟨z, w⟩ | ⟨z, q⟩
      · subst z; exact ⟨x, e⟩
      · exact ⟨_, q⟩
    obtain ⟨y', e1⟩ := lift q1
    obtain ⟨z', e2⟩ := lift q2
    exact R.inj j k y' z' b e1 e2
  · rcases get_set_cases q with ⟨z, w⟩ | ⟨z, q⟩
    · cases w
    · exact R.iscr j ns q
  · rcases get_set_cases q with ⟨z, w⟩ | ⟨z, q⟩
    · cases w
    · exact R.isrc j _ q
  · have q := R.src
    cases l with
    | none => cases g with
      | none => trivial
      | some s => exact q.elim
    | some p => cases g with
      | none => exact q.elim
      | some s =>
        obtain ⟨k1, k2, k3, k4, k5⟩ := q
        have n1 : p.1 ≠ a := fun z => h5 ⟨p, rfl, .inl z.symm⟩
        have n2 : p.2 ≠ a := fun z => h5 ⟨p, rfl, .inr z.symm⟩
        exact ⟨k1, by rw [upd_ne n1]; exact k2, by rw [upd_ne n2]; exact k3, k4, k5⟩
  · have hb : b ≠ a := fun z => by rw [z, h4] at q; cases q
    rw [upd_ne hb]
    exact R.old b o q ns
  · by_cases hb : b = a
    · rw [hb, upd_same]; exact nofun
    · rw [upd_ne hb]; exact R.oldd b q
  · by_cases hb : b = a
    · rw [hb, upd_same]; exact nofun
    · rw [upd_ne hb]; exact q
  · have hb : b ≠ a := fun z => n1 (by rw [z]; exact oa)
    rw [upd_ne hb]
    exact q
  · rcases get_set_cases q with ⟨z, w⟩ | ⟨z, q⟩
    · subst z
      exact ⟨_, x, e, hq⟩
    · exact ⟨j, y, q, hq⟩
/-- {} whose keys will be tuples -/
def mNewT : M EV := M.pure (.fr (mkT []))
theorem de_newT {pos : Pos} : DE X C (.Dict [] [] pos) mNewT := ⟨fun _ => ⟨_, pe_dnewT, fun σ F H l env g Q R w => fun q hq => by
  have nF := none_sub R.sub hq
  exact (KE.res (r := .fr (mkT [])) R w) (V.ref q) F (upd H q (.dT [])) ⟨.refl _, Same.upd hq, R.sub.trans (Same.upd hq), fun _ e => .inl e, q, rfl, hq, nF, .inr ⟨[], [], rfl, upd_same, rfl⟩⟩⟩⟩
end
end DL
namespace DL
open PySem L2
section
variable {X : Cx} {C : DCx} {o e f ix : Expr} {apos cpos pos pos' : Pos} {i : Nat}
def isTs (i : Nat) (env : Env') : Bool := (slotT i env).isSome
theorem isTs_eq {env : Env'} (h : isTs i env = true) : ∃ r, env[i]? = some (.own (mkT r)) := by
  unfold isTs at h
  obtain ⟨r, h⟩ := Option.isSome_iff_exists.mp h
  exact ⟨r, slotT_eq h⟩
/-- d.get(k, x) -/
def mTGet2 (i : Nat) (mk md : M PyData) : M EV := fun env g => if isTs i env = true then (mk.bind fun k => md.bind fun d => fun env g => match slotT i env, keyT k with
  | some r, some ks => .ok (.d ((getT r ks).getD d)) env g
  | _, _ => .bad) env g else .bad
theorem de_tget2 (hu : X.A.units + 1 < cLine) (ho : PE X o (tVar i)) {mk md : M PyData} (he : DD X C e mk) (hf : DD X C f md)
    (m : M2 X o "get" apos e f cpos := by exact ⟨rfl, rfl, rfl, rfl⟩) : DE X C (.Call (.Attribute o "get" apos) [e, f] [] cpos) (mTGet2 i mk md) := by
  refine ⟨fun hK => ?_⟩
  obtain ⟨t1, h1, s1⟩ := he.run hK
  obtain ⟨t2, h2, s2⟩ := hf.run hK
  refine ⟨_, pe_dget2 hu ho h1 h2 m, fun σ F H l env g Q R w => ?_⟩
  obtain ⟨h0, w⟩ := wp_iteR w
  obtain ⟨r0, e0⟩ := isTs_eq h0
  obtain ⟨a, kv0, g1, g2, g3⟩ := R.ownT e0
  refine ⟨.ref a, g1, a, rfl, .inr ⟨kv0, .inl g2⟩, ?_⟩
  refine s1 σ F H l env g _ R (Wp.mono (Wp.bind.mp w) (fun k env1 gg w v F1 H1 l1 R1 x1 q1 => ?_) fun _ _ _ _ w => w)
  refine s2 σ F1 H1 l1 env1 gg _ R1 (Wp.mono (Wp.bind.mp w) (fun d env2 gg2 w u F2 H2 l2 R2 x2 q2 => ?_) fun _ _ _ _ w => w)
  split at w
  · rename_i r ks e1 e2
    have e1 := slotT_eq e1
    obtain ⟨b, kv, k1, k2, k3⟩ := R2.ownT e1
    rw [g1] at k1
    cases k1
    obtain ⟨b, rfl, k4⟩ := key_at (Rep.up x2.fs _ _ q1) e2
    refine ⟨valV kv ks, DGet.t k2 (R2.sub _ _ k4), ?_⟩
    have x12 := x1.trans (C := C) x2
    rcases k3.get ks with ⟨z1, z2⟩ | ⟨v', d', z1, z2, z3⟩
    · rw [z1]
      rw [z2] at w
      exact w u F2 H2 l2 R2 x12 q2 trivial
    · rw [z1]
      rw [z2] at w
      exact w v' F2 H2 l2 R2 x12 z3 trivial
  · exact w.elim
/-- d[k], there -/
def mTGet (i : Nat) (mk : M PyData) : M EV := fun env g => if isTs i env = true then (mk.bind fun k => fun env g => match slotT i env, keyT k with
  | some r, some ks => (match getT r ks with
    | some d => .ok (.d d) env g
    | none => .bad)
  | _, _ => .bad) env g else .bad
theorem de_tget (hu : X.A.units + 1 < cLine) (ho : PE X o (tVar i)) {mk : M PyData} (he : DD X C e mk) (hs : NoSl e := by exact fun _ _ => rfl) : DE X C (.Subscript o e pos) (mTGet i mk) := by
  refine ⟨fun hK => ?_⟩
  obtain ⟨t1, h1, s1⟩ := he.run hK
  refine ⟨_, pe_dget hu ho h1 hs, fun σ F H l env g Q R w => ?_⟩
  obtain ⟨h0, w⟩ := wp_iteR w
  obtain ⟨r0, e0⟩ := isTs_eq h0
  obtain ⟨a, kv0, g1, g2, g3⟩ := R.ownT e0
  refine ⟨.ref a, g1, ?_⟩
  refine s1 σ F H l env g _ R (Wp.mono (Wp.bind.mp w) (fun k env1 gg w v F1 H1 l1 R1 x1 q1 => ?_) fun _ _ _ _ w => w)
  split at w
  · rename_i r ks e1 e2
    have e1 := slotT_eq e1
    obtain ⟨b, kv, k1, k2, k3⟩ := R1.ownT e1
    rw [g1] at k1
    cases k1
    obtain ⟨b, rfl, k4⟩ := key_at q1 e2
    rcases k3.get ks with ⟨z1, z2⟩ | ⟨v', d', z1, z2, z3⟩
    · rw [z2] at w; exact w.elim
    · rw [z2] at w
      have := DGet.t k2 (R1.sub _ _ k4)
      rw [z1] at this
      exact ⟨a, v', rfl, this, w v' F1 H1 l1 R1 x1 z3 trivial⟩
  · exact w.elim
/-- d[k] = v -/
def mTPut (j : Nat) (mv mi : M PyData) : M Fl := mv.bind fun d => fun env g => if isTs j env = true then (mi.bind fun x => fun env g =>
  match slotT j env, keyT x with
  | some r, some k => if r.length < sizeLine then .ok .nx (env.set j (.own (mkT (putT r k d)))) g else .bad
  | _, _ => .bad) env g else .bad
theorem ds_tput {j : Nat} {mv mi : M PyData} (hu : X.A.units + 1 < cLine) (ho : PE X o (tVar j)) (hv : DD X C e mv) (hi : DD X C ix mi)
    (hs : swapsWith e (some (.Subscript o ix pos')) pos.line X.env = pure false := by rfl) :
    DS X C (.Assign [.Subscript o ix pos'] e pos) (mTPut j mv mi) := by
  refine ⟨fun hK => ?_⟩
  obtain ⟨tv, h1, s1⟩ := hv.run hK
  obtain ⟨ti, h2, s2⟩ := hi.run hK
  refine ⟨_, ps_dput hu ho h2 h1 hs, fun σ F H l env g D R w => ?_⟩
  refine s1 σ F H l env g _ R (Wp.mono (Wp.bind.mp w).xs (fun d env1 g1 w v F1 H1 l1 R1 x1 r1 => ?_) fun _ _ _ _ w => w)
  obtain ⟨h0, w⟩ := wp_iteR w
  obtain ⟨r0, e0⟩ := isTs_eq h0
  obtain ⟨a, kv0, q1, q2, q3⟩ := R1.ownT e0
  refine ⟨.ref a, q1, ?_⟩
  refine s2 σ F1 H1 l1 env1 g1 _ R1 (Wp.mono (Wp.bind.mp w).xs (fun x env2 g2 w u F2 H2 l2 R2 x2 r2 => ?_) fun _ _ _ _ w => w)
  split at w
  · rename_i r ks e1 e2
    obtain ⟨hz, w⟩ := wp_iteR w
    have e1 := slotT_eq e1
    obtain ⟨b, kv, k1, k2, k3⟩ := R2.ownT e1
    rw [q1] at k1
    cases k1
    obtain ⟨b, rfl, k4⟩ := key_at r2 e2
    have hput : RepT C.K F2 (putK kv ks v) (putT r ks d) := k3.put (Rep.up x2.fs _ _ r1)
    obtain ⟨R3, x3⟩ := R2.putO (o := .dT (putK kv ks v)) (y := mkT (putT r ks d)) e1 q1 (.inr ⟨_, _, rfl, upd_same, hput⟩)
    exact ⟨a, _, rfl, DPut.t k2 (R2.sub _ _ k4) (by rw [k3.length]; exact hz), w σ F2 _ l2 R3 (x1.fs.trans x2.fs)⟩
  · exact w.elim
end
end DL
namespace DL
open PySem L2
section
open PySem.W PyProof.Rows
variable {prog : Program} {w : World} {A : Around} {E : Value → Shared → Prop} {s : Shared}
theorem sortedColG {l : Addr} {vs : List Value} {Q : Value → Shared → Prop} (hz : vs.length ≤ sizeLine)
    (hcol : ∀ (E' : Value → Shared → Prop) (R : List Value → Shared → Prop), (∀ h1 tk1, (∀ b o, s.heap.get? b = some o → h1.get? b = some o) → R vs { s with heap := h1, toks := tk1 }) → wpAny (model prog w) A.in1 (collect (.ref l)) R E' s)
    (rest : ∀ (h1 : Heap) (tk1 : Nat), (∀ b o, s.heap.get? b = some o → h1.get? b = some o) → ∃ κ : PyProof.Rows.KeyKind, SortsAt prog w A.in1.in1 { s with heap := sortingHeap (h1.push (seqObj "list" vs.toArray 0)) h1.objs.size vs, toks := tk1 } κ vs ∧ Q (.ref h1.objs.size) { s with heap := sortedHeap (h1.push (seqObj "list" vs.toArray 0)) h1.objs.size vs (sortVals κ false vs vs).toArray, toks := tk1 }) :
    wpAny (model prog w) A (call (.builtin "sorted") [.ref l]) Q E s := by
  refine call_function_entry_kw kind_sorted plain_sorted entry_sorted (args_sorted1 _) ?_
  unfold Builtin.«sorted»
  refine wpAny_bind (m := checkCount "sorted" 1 1 _) (wpAny_pure ?_)
  refine wpAny_bind (hcol _ _ fun h1 tk1 hk => ?_)
  obtain ⟨κ, S, h⟩ := rest h1 tk1 hk
  refine wpAny_bind (wpAny_newList ?_ hz)
  have ho : (h1.push (seqObj "list" vs.toArray 0)).get? h1.objs.size = some (seqObj "list" vs.toArray 0) := Heap.get?_push_size _ rfl
  change wpAny _ _ _ _ _ { s with heap := h1.push (seqObj "list" vs.toArray 0), toks := tk1 }
  refine wpAny_bind (wpAny_holding (wpAny_call_entry_kw slot_list_sort ⟨_, ho, rfl⟩ entry_list_sort ?body (args_list_sort _)))
  case body =>
    change wpAny (model prog w) A.in1.in1 (Builtin.«list.sort» ⟨[.ref h1.objs.size], []⟩) _ _ _
    refine list_sort_vals (s := { s with heap := h1.push (seqObj "list" vs.toArray 0), toks := tk1 }) ho S hz ?_
    exact ⟨_, rfl, wpAny_pure ⟨_, rfl, h⟩⟩
end
theorem list_of_at {α β : Type} {f : β → α} {xs : List α} {ys : List β} (hl : xs.length = ys.length) (h : ∀ (j : Nat) (v : α) (x : β), xs[j]? = some v → ys[j]? = some x → v = f x) : xs = ys.map f := by
  refine List.ext_getElem (by rw [List.length_map, hl]) fun j h1 h2 => ?_
  rw [List.getElem_map]
  exact h j _ _ (List.getElem?_eq_getElem h1) (List.getElem?_eq_getElem (by omega))
section
variable {X : Cx}
theorem sorted_coreG {pins : List (Addr × Obj)} {s : Shared} {σ : L2.St} {F H : Hp} {Q : VK} {l : Addr} {its : List Value} {vs : List V} {ds : List PyData} (hu : X.A.units + 64 < cLine) (I : Inv X pins σ H s) (hs : Same F H) (rv : Vals vs its) (rl : RepL X.K F vs ds)
    (hz : vs.length ≤ sizeLine) (ok : sortOk ds = true)
    (hcol : ∀ (E' : Value → Shared → Prop) (R : List Value → Shared → Prop), (∀ h1 tk1, (∀ b o, s.heap.get? b = some o → h1.get? b = some o) → R its { s with heap := h1, toks := tk1 }) → wpAny (model X.prog X.w) X.A.in1 (collect (.ref l)) R E' s)
    (hq : ResK X.K F H Q (.fr (.list (sortD ds)))) : wpAny (model X.prog X.w) X.A (call (.builtin "sorted") [.ref l]) (EP X pins σ Q) X.xe s := by
  have hl := rl.length
  have hzip : ∀ z ∈ vs.zip ds, Rep X.K F z.1 z.2 := by
    clear rv hz hcol hq ok I hs
    induction ds generalizing vs with
    | nil => intro z hz; simp at hz
    | cons d ds ih =>
      obtain ⟨v, r, rfl, r1, r2⟩ := repL_cons.mp rl
      intro z hz
      rw [List.zip_cons_cons] at hz
      rcases List.mem_cons.mp hz with q | q
      · subst q; exact r1
      · exact ih r2 (by simpa using hl) z q
  have e1 : (vs.zip ds).map (·.1) = vs := List.map_fst_zip (Nat.le_of_eq hl)
  have e2 : (vs.zip ds).map (·.2) = ds := List.map_snd_zip (Nat.le_of_eq hl.symm)
  have each : PySem.W.EachIs (fun u (z : V × PyData) => RelV z.1 u ∧ Rep X.K F z.1 z.2) its (vs.zip ds) := each_and (vals_each (by rw [e1]; exact rv)) fun a b _ hb h => ⟨h, hzip b hb⟩
  have er : PySem.W.EachIs (fun u (z : V × PyData) => ∃ as, Reads s.heap u z.2 as) its (vs.zip ds) := each.mono fun u z h => Rep.reads I hs z.2 z.1 u h.2 h.1
  refine sortedColG (by rw [← rv.length]; exact hz) hcol fun h1 tk1 hk => ?_
  have I1 : Inv X pins σ H { s with heap := h1, toks := tk1 } := I.kept hk
  have old2 : ∀ b o, s.heap.get? b = some o → (h1.push (PyProof.Rows.seqObj "list" its.toArray 0)).get? b = some o := fun b o e => Heap.get?_push_of_some _ (hk b o e)
  have nD : ∀ b o, s.heap.get? b = some o → b ≠ h1.objs.size := fun b o e => Nat.ne_of_lt (Heap.lt_size (hk b o e))
  have oldS : ∀ b o, s.heap.get? b = some o → (PySem.W.sortingHeap (h1.push (PyProof.Rows.seqObj "list" its.toArray 0)) h1.objs.size its).get? b = some o := fun b o e => PySem.W.sortingHeap_old (nD b o e) (old2 b o e)
  have er' : PySem.W.EachIs (fun v (b : V × PyData) => ∃ as, Reads (PySem.W.sortingHeap (h1.push (PyProof.Rows.seqObj "list" its.toArray 0)) h1.objs.size its) v b.2 as) its (vs.zip ds) := er.mono fun _ _ ⟨as, r⟩ => ⟨as, PyProof.Rows.Reads.keeps oldS r⟩
  refine ⟨_, sortsAt_ok (s := { s with heap := PySem.W.sortingHeap (h1.push (PyProof.Rows.seqObj "list" its.toArray 0)) h1.objs.size its, toks := tk1 }) (ds := ds) ?_ ok (fun d hd => ?_), ?_⟩
  · have := PySem.W.each_map (R := fun v d => ∃ as, Reads (PySem.W.sortingHeap (h1.push (PyProof.Rows.seqObj "list" its.toArray 0)) h1.objs.size its) v d as) (fun z : V × PyData => z.2) er'
    rw [e2] at this
    exact this
  · have := sortOk.depth ok d hd
    show X.A.in1.in1.units + d.depth < cLine
    show X.A.units + 1 + 1 + d.depth < cLine
    omega
  · have hd := PySem.W.sortVals_data (h' := PySem.W.sortingHeap (h1.push (PyProof.Rows.seqObj "list" its.toArray 0)) h1.objs.size its) (enc := fun z : V × PyData => z.2) false each er' (by rw [e2]; exact (sortOk.alike ok))
    rw [e2] at hd
    have hm : ((vs.zip ds).mergeSort (PySem.W.dataLe false fun z : V × PyData => z.2)).map (·.2) = sortD ds := by
      have := PySem.W.sort_maps (r := PySem.W.dataLe false fun z : V × PyData => z.2) (s := PySem.W.dataLe false (id : PyData → PyData)) (fun z : V × PyData => z.2) (l := vs.zip ds) fun a _ b _ => rfl
      rw [this, e2]
      rfl
    obtain ⟨ep, he⟩ := PyProof.Rows.sortedHeap_at (h := h1.push (PyProof.Rows.seqObj "list" its.toArray 0)) (a := h1.objs.size) (vs := its) (n := 0) (out := (PySem.W.sortVals (PySem.W.dataKind (PySem.W.sortingHeap (h1.push (PyProof.Rows.seqObj "list" its.toArray 0)) h1.objs.size its) ds) false its its).toArray) (Heap.get?_push_size _ rfl)
    have hv : Vals (((vs.zip ds).mergeSort (PySem.W.dataLe false fun z : V × PyData => z.2)).map (·.1)) (PySem.W.sortVals (PySem.W.dataKind (PySem.W.sortingHeap (h1.push (PyProof.Rows.seqObj "list" its.toArray 0)) h1.objs.size its) ds) false its its) := each_vals (hd.mono fun _ _ h => h.1)
    have hr : RepL X.K F (((vs.zip ds).mergeSort (PySem.W.dataLe false fun z : V × PyData => z.2)).map (·.1)) (sortD ds) := by
      rw [← hm]
      exact repL_zip fun z hz => hzip z ((List.mergeSort_perm _ _).mem_iff.mp hz)
    have hlen : (((vs.zip ds).mergeSort (PySem.W.dataLe false fun z : V × PyData => z.2)).map (·.1)).length ≤ sizeLine := by
      rw [List.length_map, (List.mergeSort_perm _ _).length_eq, List.length_zip, hl, Nat.min_self, ← hl]
      exact hz
    have kp : ∀ b u, h1.get? b = some u → (PyProof.Rows.sortedHeap (h1.push (PyProof.Rows.seqObj "list" its.toArray 0)) h1.objs.size its (PySem.W.sortVals (PySem.W.dataKind (PySem.W.sortingHeap (h1.push (PyProof.Rows.seqObj "list" its.toArray 0)) h1.objs.size its) ds) false its its).toArray).get? b = some u := fun b u e => by
      have e' : (h1.push (PyProof.Rows.seqObj "list" its.toArray 0)).get? b = some u := Heap.get?_push_of_some _ e
      rw [PyProof.Rows.sortedHeap_old (Nat.ne_of_lt (Heap.lt_size e)) (Heap.lt_size e')]
      exact e'
    exact ⟨.ref _, upd H h1.objs.size (.lst _), I1.laid (t' := tk1) kp (Nat.le_refl _) ⟨hlen, _, ep, hv, he⟩, rfl, hq.lst hs (I1.hok.fresh (Nat.le_refl _)) hr⟩
/-- sorted(d) of a dict with tuples as keys: its keys, sorted -/
def rSortT (K : PySem.W.Frag) : List V → Hp → VK → Prop := fun xs H Q => ∃ (a : Addr) (kv : List (List Key × V)) (F : Hp) (r : TD), xs = [V.ref a] ∧ H a = some (.dT kv) ∧ Same F H ∧ RepT K F kv r ∧ sortOk (r.map (·.1)) = true ∧ ResK K F H Q (.fr (.list (sortD (r.map (·.1)))))
theorem cr_sortT (hc : X.calm = true) (hu : X.A.units + 64 < cLine) : CallR X (.builtin "sorted") (rSortT X.K) := by
  intro pins s σ H xs us Q I r h
  obtain ⟨d, kvs, F, ds, rfl, hd, hsame, hrep, hok, q⟩ := h
  obtain ⟨u, rfl, rx⟩ := r.one
  cases rx
  obtain ⟨z, hs, ks, pr, o, es, ep, ho, hx, hdt, he, hn⟩ := (show ObjOk X.prog X.w H s.heap d (.dT kvs) from I.hok _ _ hd)
  have l1 : es.size = ks.length := size_of_entries he
  have l2 : kvs.length = ks.length := Paired.length pr
  have isk := isKeys_of pr
  generalize hbs : (ks.map fun x => x.2.1) = bs at isk
  have rv : Vals (bs.map V.ref) (bs.map Value.ref) := vals_refs _
  let F' : Hp := fun b => if b ∈ bs then H b else F b
  have sF : Same F F' := fun b w e => by
    show (if b ∈ bs then H b else F b) = some w
    split
    · exact hsame _ _ e
    · exact e
  have sF' : Same F' H := fun b w e => by
    replace e : (if b ∈ bs then H b else F b) = some w := e
    split at e
    · exact e
    · exact hsame _ _ e
  have rl : RepL X.K F' (bs.map V.ref) (ds.map (·.1)) := by
    have main : ∀ (kv : List (List Key × V)) (bs0 : List Addr) (r : TD), IsKeys H kv bs0 → RepT X.K F kv r → (∀ b ∈ bs0, b ∈ bs) → RepL X.K F' (bs0.map V.ref) (r.map (·.1)) := by
      intro kv
      induction kv with
      | nil =>
        intro bs0 r h1 h2 _
        cases h1
        have := h2.length
        cases r with
        | nil => exact repL_nil.mpr rfl
        | cons _ _ => simp at this
      | cons p kv ih =>
        intro bs0 r h1 h2 hb
        cases h1 with
        | cons g1 g2 =>
          rename_i b bs1
          cases r with
          | nil => have := h2.length; simp at this
          | cons x r =>
            obtain ⟨k', v', t, e, e2, q2, u2⟩ := h2
            cases e
            refine repL_cons.mpr ⟨_, _, rfl, ?_, ih bs1 r g2 u2 fun b hb' => hb b (List.mem_cons_of_mem _ hb')⟩
            show Rep X.K F' (V.ref b) x.1
            rw [e2]
            refine rep_tup.mpr ⟨b, k'.map kV, rfl, ?_, rep_kVs k'⟩
            show (if b ∈ bs then H b else F b) = _
            rw [if_pos (hb b (by simp))]
            exact g1
    exact main kvs bs ds isk hrep fun b hb => hb
  have lb : bs.length = ks.length := by rw [← hbs, List.length_map]
  refine sorted_coreG hu I sF' rv rl (by rw [List.length_map]; omega) hok ?_ ?_
  · intro E' R hR
    refine PySem.W.kdu_collect (kdl_raw hs hx hdt) (I.ok.hd hc) ho (by omega) fun h' tk' acc' kp it => ?_
    have eb : acc'.toList = bs.map Value.ref := by
      rw [← hbs, List.map_map]
      refine list_of_at (by rw [Array.length_toList, it.1, l1]) fun j v x hv hx => ?_
      obtain ⟨en, hen, hve⟩ := it.2 j v (by rw [← Array.getElem?_toList]; exact hv)
      have qe := entry_at he j
      rw [hen, hx] at qe
      rw [hve, Option.some.inj qe]; rfl
    rw [eb]
    exact hR h' tk' kp
  · intro v F2 H2 n
    refine q v F2 H2 ⟨sF.trans n.fs, n.hs, n.sub, fun a ha => ?_, n.rep⟩
    rcases n.gr a ha with z1 | z1 | z1
    · by_cases hb : a ∈ bs
      · refine .inr (.inr ?_)
        have key : ∀ (kv : List (List Key × V)) (bs0 : List Addr), IsKeys H kv bs0 → ∀ b ∈ bs0, TupAt H b := by
          intro kv
          induction kv with
          | nil => intro bs0 h1 b hb; cases h1; cases hb
          | cons p kv ih =>
            intro bs0 h1 b hb
            cases h1 with
            | cons g1 g2 =>
              rcases List.mem_cons.mp hb with rfl | hb
              · exact ⟨_, g1⟩
              · exact ih _ g2 b hb
        exact key _ _ isk a hb
      · left
        intro z2
        exact z1 (by show (if a ∈ bs then H a else F a) = none; rw [if_neg hb]; exact z2)
    · exact .inr (.inl z1)
    · exact .inr (.inr z1)
end
end DL
namespace DL
open PySem L2
/-! a module's own tuple, compared -/
def KTup (K : PySem.W.Frag) (v : V) (d : PyData) : Prop := ∃ (a : Addr) (vs : List V) (ds : List PyData), v = .ref a ∧ d = .tuple ds ∧ (∀ H, SqT K H a vs) ∧ ∀ F, RepL K F vs ds
def KonstR (mg : Str → Option Value) (K : PySem.W.Frag) (x : Str) (d : PyData) : Prop := ∃ (u : Value) (v : V), mg x = some u ∧ RelV v u ∧ KTup K v d
theorem konstR_of {mg : Str → Option Value} {K : PySem.W.Frag} {x : Str} {a : Addr} {ds : List PyData} {its : Array Value} {od : Option Addr} {n : Nat} {sl : Array (Option Value)} (h : mg x = some (.ref a)) (hl : K.lookup a = some ⟨.type "tuple", od, .seq its n, sl⟩) (hz : its.size ≤ 1000) (hd : AtomsR ds its.toList) : KonstR mg K x (.tuple ds) := by
  obtain ⟨vs, h1, _⟩ := atomsR (K := K) (F := fun _ => none) hd
  refine ⟨.ref a, .ref a, h, rfl, a, vs, ds, rfl, rfl, fun H => .inr ⟨_, its, n, hl, rfl, rfl, by rw [sizeLine_eq]; omega, h1⟩, fun F => ?_⟩
  obtain ⟨vs', h3, h4⟩ := atomsR (K := K) (F := F) hd
  rw [Vals.inj h1 h3]
  exact h4
section
variable {X : Cx} {C : DCx} {pins : List (Addr × Obj)} {s : Shared} {σ : L2.St} {F H : Hp}
theorem KTup.reads (I : Inv X pins σ H s) {v : V} {u : Value} {d : PyData} (h : KTup X.K v d) (r : RelV v u) : ∃ as, Reads s.heap u d as := by
  obtain ⟨a, vs, ds, rfl, rfl, hq, hr⟩ := h
  cases r
  obtain ⟨its, rv, ⟨o, ho, hc, n, hd⟩, _⟩ := I.tuple (hq H)
  obtain ⟨bs, h2⟩ := RepL.reads (F := fun _ => none) I (fun _ _ e => by cases e) ds vs its (hr _) rv
  exact ⟨_, Reads.tuple ho hc hd h2⟩
/-- an operation whose second operand is such -/
def OpK (X : Cx) (f : Value → Value → Sem Value) (g : PyData → PyData → Option RV) : Prop :=
  ∃ r, OpR X f r ∧ ∀ (F H : Hp) (v w : V) (x y : PyData) (Q : VK) (ev : RV), Same F H → Bor X.K F H v x → KTup X.K w y → g x y = some ev → ResK X.K F H Q ev → r v w H Q
theorem eqOk_tup {x : PyData} {ds : List PyData} (h : eqOk x (.tuple ds) = true) : SeqAt.shaped x = true ∧ SeqAt.shaped (.tuple ds) = true := by
  unfold eqOk at h
  have h1 : otherLen x (.tuple ds) = false := by cases x <;> rfl
  have h2 : texts2 x (.tuple ds) = false := by cases x <;> rfl
  rw [h1, h2, Bool.or_false, Bool.or_false, Bool.and_eq_true] at h
  exact h
def rKst (K : PySem.W.Frag) (f : Bool → Bool) : R2 := fun x y H Q => ∃ F d e, Same F H ∧ Bor K F H x d ∧ KTup K y e ∧ SeqAt.shaped d = true ∧ SeqAt.shaped e = true ∧ Q (.bl (f (PyData.eqv d e))) H
theorem opk_eq (hu : X.A.units + 64 < cLine) : OpK X (compareOp .Eq) pyEq := by
  refine ⟨rKst X.K id, ?_, ?_⟩
  · intro pins s σ H x y v u Q I rx ry h
    obtain ⟨F, d, e, hs, hd, he, sd, se, q⟩ := h
    obtain ⟨as, r1⟩ := hd.reads I hs rx
    obtain ⟨bs, r2⟩ := he.reads I ry
    exact SeqAt.compareEq_shaped r1 r2 sd se hu ⟨.bl _, H, I, rfl, q⟩
  · intro F H v w x y Q ev hs hx hy hg hq
    obtain ⟨h1, rfl⟩ := if_some hg
    have hy2 := hy
    obtain ⟨_, _, ds, _, rfl, _⟩ := hy2
    obtain ⟨sd, se⟩ := eqOk_tup h1
    exact ⟨F, x, _, hs, hx, hy, sd, se, hq.val hs (rep_bool.mpr rfl)⟩
theorem opk_ne (hu : X.A.units + 64 < cLine) : OpK X (compareOp .NotEq) pyNe := by
  refine ⟨rKst X.K not, ?_, ?_⟩
  · intro pins s σ H x y v u Q I rx ry h
    obtain ⟨F, d, e, hs, hd, he, sd, se, q⟩ := h
    obtain ⟨as, r1⟩ := hd.reads I hs rx
    obtain ⟨bs, r2⟩ := he.reads I ry
    exact SeqAt.compareNe_shaped r1 r2 sd se hu ⟨.bl _, H, I, rfl, q⟩
  · intro F H v w x y Q ev hs hx hy hg hq
    obtain ⟨h1, rfl⟩ := if_some hg
    have hy2 := hy
    obtain ⟨_, _, ds, _, rfl, _⟩ := hy2
    obtain ⟨sd, se⟩ := eqOk_tup h1
    exact ⟨F, x, _, hs, hx, hy, sd, se, hq.val hs (rep_bool.mpr rfl)⟩
theorem simK {r : R2} {gop : PyData → PyData → Option RV} {ta : TE} {ma : M EV} {u : V} {d : PyData} (ha : SimE C ta ma) (hu : KTup C.K u d)
    (hr : ∀ (F H : Hp) (v w : V) (x y : PyData) (Q : VK) (ev : RV), Same F H → Bor C.K F H v x → KTup C.K w y → gop x y = some ev → ResK C.K F H Q ev → r v w H Q) : SimE C (tOp r ta (tC u)) (mBin gop ma (mK d)) := by
  intro σ F H l env g Q R w
  refine ha σ F H l env g _ R (Wp.mono (Wp.bind.mp w) (fun a env1 g1 w v F1 H1 l1 R1 x1 r1 f1 => ?_) fun _ _ _ _ w => w)
  show r v u H1 Q
  have w := Wp.bind.mp w
  have w : Wp ((fun env g => match look env a, look env (.d d) with
    | some x, some y => M.opt ((gop x y).map RV.ev) env g
    | _, _ => .bad) env1 g1) (KE C σ F H l env Q) (KX C σ) := w
  dsimp only at w
  split at w
  · rename_i x y e1 e2
    cases e2
    cases hg : gop x d with
    | none => rw [hg] at w; exact w.elim
    | some ev =>
      rw [hg] at w
      exact hr F1 H1 v u x d Q ev R1.sub (r1.look R1 e1) hu hg (KE.res R1 (KE.up w x1))
  · exact w.elim
theorem de_cmpK {a : Expr} {op : CmpOp} {x : Str} {p pos : Pos} {gop : PyData → PyData → Option RV} {ma : M EV} {d : PyData} (ho : OpK X (compareOp op) gop) (ha : DE X C a ma) (hg : Gl X x) (hc : KonstR X.mg X.K x d) (hm : behindInMarks op (.Name x p) = false) (hd : (x == ("__debug__" : Str)) = false := by decide) : DE X C (.Compare a [op] [.Name x p] pos) (mBin gop ma (mK d)) := by
  refine ⟨fun hK => ?_⟩
  obtain ⟨ta, h1, s1⟩ := ha.run hK
  obtain ⟨u, v, q1, q2, q3⟩ := hc
  obtain ⟨r, hr, hs⟩ := ho
  exact ⟨_, pe_cmpR hr h1 (pe_glob hg q1 q2 hd) hm, simK s1 (by rw [hK]; exact q3) (by rw [hK]; exact hs)⟩
theorem dt_cmpK {a : Expr} {op : CmpOp} {x : Str} {p pos : Pos} {gop : PyData → PyData → Option RV} {ma : M EV} {d : PyData} (ho : OpK X (compareOp op) gop) (ha : DE X C a ma) (hg : Gl X x) (hc : KonstR X.mg X.K x d) (hm : behindInMarks op (.Name x p) = false) (hd : (x == ("__debug__" : Str)) = false := by decide) : DT X C (.Compare a [op] [.Name x p] pos) ((mBin gop ma (mK d)).bind mBool) := by
  refine ⟨fun hK => ?_⟩
  obtain ⟨ta, h1, s1⟩ := ha.run hK
  obtain ⟨u, v, q1, q2, q3⟩ := hc
  obtain ⟨r, hr, hs⟩ := ho
  exact ⟨_, pt_cmpR hr h1 (pe_glob hg q1 q2 hd) hm, simTest (simK s1 (by rw [hK]; exact q3) (by rw [hK]; exact hs))⟩
end
end DL
namespace DL
open PySem L2
/-! sorted(d) -/
section
variable {X : Cx} {C : DCx} {e : Expr} {pos p : Pos} {x : Str}
def mTSort (i : Nat) : M EV := fun env g => match slotT i env with
  | some r => if sortOk (r.map (·.1)) = true then .ok (.fr (.list (sortD (r.map (·.1))))) env g else .bad
  | none => .bad
theorem de_tsort {i : Nat} (hc : X.calm = true) (hu : X.A.units + 64 < cLine) (hg : Gl X x) (hm : X.mg x = none) (hv : bootBuiltins x = some (.builtin "sorted")) (ho : PE X e (tVar i))
    (hn : x ≠ "__name__" := by decide) (hdb : (x == ("__debug__" : Str)) = false := by decide) (he : starEach [e] X.env = (false, eval e X.env) :: starEach [] X.env := by rfl) (hpl : (backTo pos (starEach [] X.env)).any (·.1) = false := by rfl) :
    DE X C (.Call (.Name x p) [e] [] pos) (mTSort i) := by
  refine ⟨fun hK => ?_⟩
  refine ⟨_, pe_callB (cr_sortT hc hu) hg hm hv (pa_cons ho pa_nil he) hn hdb he hpl, fun σ F H l env g Q R w => ?_⟩
  unfold mTSort at w
  split at w
  · rename_i r e1
    obtain ⟨hok, w⟩ := wp_iteR w
    obtain ⟨a, kv, k1, k2, k3⟩ := R.ownT (slotT_eq e1)
    have w' : KE C σ F H l env Q (.fr (.list (sortD (r.map (·.1))))) env g := w
    generalize hz : PyData.list (sortD (r.map (·.1))) = z at w'
    have hr := KE.res (r := RV.fr z) R w'
    subst hz
    rw [hK] at k3 hr
    exact ⟨.ref a, k1, a, kv, F, r, rfl, k2, R.sub, k3, hok, hr⟩
  · exact w.elim
end
/-! in functional terms -/
theorem tdOf_eq {x : PyData} {r : TD} (h : tdIn x = some r) : x = mkT r := by
  unfold tdIn at h
  split at h
  · cases h; rfl
  · cases h
theorem tdOf_mk (r : TD) : tdIn (mkT r) = some r := rfl
section
variable {t t1 t2 : List SS}
theorem dt_get {e : Env'} {i : Nat} {x : PyData} {r : TD} (f : Fits t e) (h : t[i]? = some (.dt x)) (hx : tdIn x = some r) : slotT i e = some r ∧ isTs i e = true := by
  obtain ⟨s, h1, h2, _⟩ := f.get h
  have : slotT i e = some r := by
    unfold slotT
    rw [h1, h2, tdOf_eq hx]
    rfl
  exact ⟨this, by unfold isTs; rw [this]; rfl⟩
theorem dt_some {e : Env'} {i : Nat} {x : PyData} (f : Fits t e) (h : t[i]? = some (.dt x)) : ∃ r, tdIn x = some r := by
  obtain ⟨s, h1, _, h3⟩ := f.get h
  exact Option.isSome_iff_exists.mp h3
def sTGet2 (x : PyData) (k d : S PyData) : S PyData := k >>= fun k => d >>= fun d => S.opt (match tdIn x, keyT k with
  | some r, some ks => some ((getT r ks).getD d)
  | _, _ => none)
def sTGet (x : PyData) (k : S PyData) : S PyData := k >>= fun k => S.opt (match tdIn x, keyT k with
  | some r, some ks => getT r ks
  | _, _ => none)
def sTPut (x : PyData) (v k : S PyData) : S PyData := v >>= fun v => k >>= fun k => S.opt (match tdIn x, keyT k with
  | some r, some ks => if r.length < sizeLine then some (mkT (putT r ks v)) else none
  | _, _ => none)
def sTSort (x : PyData) : S PyData := S.opt (match tdIn x with
  | some r => if sortOk (r.map (·.1)) = true then some (.list (sortD (r.map (·.1)))) else none
  | none => none)
theorem te_tget2 {i : Nat} {x : PyData} {mk md : M PyData} {sk sd : S PyData} (h0 : t[i]? = some (.dt x)) (hk : T EQ t mk sk t1) (hd : T EQ t1 md sd t2) (h2 : t2[i]? = some (.dt x)) : T HD t (mTGet2 i mk md) (sTGet2 x sk sd) t2 := by
  intro e g b g' f q
  obtain ⟨k, g1, q1, q⟩ := S.inv q
  obtain ⟨d, g2, q2, q⟩ := S.inv q
  obtain ⟨q3, rfl⟩ := S.invO q
  obtain ⟨r, hr⟩ := dt_some f h0
  rw [hr] at q3
  obtain ⟨a1, e1, p1, f1, k1, z1⟩ := hk e g k g1 f q1
  obtain ⟨a2, e2, p2, f2, k2, z2⟩ := hd e1 g1 d _ f1 q2
  rw [show a1 = k from z1] at p1
  rw [show a2 = d from z2] at p2
  cases hks : keyT k with
  | none => rw [hks] at q3; cases q3
  | some ks =>
    rw [hks] at q3
    cases q3
    refine ⟨_, e2, ?_, f2, k1.trans k2, rfl⟩
    unfold mTGet2
    rw [if_pos (dt_get f h0 hr).2, bind_eq p1, bind_eq p2]
    simp only [(dt_get f2 h2 hr).1, hks]
theorem te_tget {i : Nat} {x : PyData} {mk : M PyData} {sk : S PyData} (h0 : t[i]? = some (.dt x)) (hk : T EQ t mk sk t1) (h2 : t1[i]? = some (.dt x)) : T HD t (mTGet i mk) (sTGet x sk) t1 := by
  intro e g b g' f q
  obtain ⟨k, g1, q1, q⟩ := S.inv q
  obtain ⟨q3, rfl⟩ := S.invO q
  obtain ⟨r, hr⟩ := dt_some f h0
  rw [hr] at q3
  obtain ⟨a1, e1, p1, f1, k1, z1⟩ := hk e g k _ f q1
  rw [show a1 = k from z1] at p1
  cases hks : keyT k with
  | none => rw [hks] at q3; cases q3
  | some ks =>
    rw [hks] at q3
    have q3 : getT r ks = some b := q3
    refine ⟨_, e1, ?_, f1, k1, rfl⟩
    unfold mTGet
    rw [if_pos (dt_get f h0 hr).2, bind_eq p1]
    simp only [(dt_get f1 h2 hr).1, hks, q3]
theorem tf_newT {i : Nat} : TF t (mSet i mNewT) (pure (mkT [])) fun x => t.set i (.dt x) := fun e g x g' f q => by
  obtain ⟨rfl, rfl⟩ := S.inv0 q
  exact ⟨e.set i (.own (mkT [])), rfl, f.set i ⟨rfl, rfl⟩⟩
theorem tf_tput {j : Nat} {x : PyData} {mv mi : M PyData} {sv si : S PyData} (hv : T EQ t mv sv t1) (h0 : t1[j]? = some (.dt x)) (hi : T EQ t1 mi si t2) (h2 : t2[j]? = some (.dt x)) :
    TF t (mTPut j mv mi) (sTPut x sv si) fun y => t2.set j (.dt y) := fun e g y g' f q => by
  obtain ⟨v, g1, q1, q⟩ := S.inv q
  obtain ⟨k, g2, q2, q⟩ := S.inv q
  obtain ⟨q3, rfl⟩ := S.invO q
  obtain ⟨a1, e1, p1, f1, k1, z1⟩ := hv e g v g1 f q1
  rw [show a1 = v from z1] at p1
  obtain ⟨r, hr⟩ := dt_some f1 h0
  rw [hr] at q3
  obtain ⟨a2, e2, p2, f2, k2, z2⟩ := hi e1 g1 k _ f1 q2
  rw [show a2 = k from z2] at p2
  cases hks : keyT k with
  | none => rw [hks] at q3; cases q3
  | some ks =>
    rw [hks] at q3
    have q3 : (if r.length < sizeLine then some (mkT (putT r ks v)) else none) = some y := q3
    by_cases hz : r.length < sizeLine
    · rw [if_pos hz] at q3
      cases q3
      refine ⟨e2.set j (.own (mkT (putT r ks v))), ?_, f2.set j ⟨rfl, rfl⟩⟩
      unfold mTPut
      rw [bind_eq p1, if_pos (dt_get f1 h0 hr).2, bind_eq p2]
      simp only [(dt_get f2 h2 hr).1, hks, hz, if_true]
    · rw [if_neg hz] at q3; cases q3
theorem te_tsort {i : Nat} {x : PyData} (h0 : t[i]? = some (.dt x)) : T FR t (mTSort i) (sTSort x) t := fun e g b g' f q => by
  obtain ⟨q3, rfl⟩ := S.invO q
  obtain ⟨r, hr⟩ := dt_some f h0
  rw [hr] at q3
  have q3 : (if sortOk (r.map (·.1)) = true then some (PyData.list (sortD (r.map (·.1)))) else none) = some b := q3
  by_cases hz : sortOk (r.map (·.1)) = true
  · rw [if_pos hz] at q3
    cases q3
    refine ⟨.fr (.list (sortD (r.map (·.1)))), e, ?_, f, .refl, FR.of rfl⟩
    unfold mTSort
    simp only [(dt_get f h0 hr).1, hz, if_true]
  · rw [if_neg hz] at q3; cases q3
end
end DL
namespace DL
open PySem L2
theorem isT_l (ds : List PyData) : isT (.list ds) = false := rfl
theorem isT_t (ds : List PyData) : isT (.tuple ds) = false := rfl
theorem isT_i (i : Int) : isT (.int i) = false := rfl
theorem isT_n : isT .none = false := rfl
/-! max(xs, default=d) of a list of whole numbers -/
def maxDef (ns : List Int) (d : Int) : Int := match ns with
  | [] => d
  | n :: r => r.foldl max n
def pyMaxDef (x y : PyData) : Option PyData := match x, y with
  | .list ds, .int d => (intsOf ds).map fun ns => .int (maxDef ns d)
  | _, _ => none
section
variable {X : Cx} {C : DCx} {e f : Expr} {pos p kpos : Pos} {x : Str}
theorem alikeA_ints (ns : List Int) : PySem.W.AlikeAll (ns.map .int) := by
  refine ⟨fun x hx y hy => ?_, fun x hx => ?_⟩
  · obtain ⟨i, _, rfl⟩ := List.mem_map.mp hx
    obtain ⟨j, _, rfl⟩ := List.mem_map.mp hy
    rfl
  · obtain ⟨i, _, rfl⟩ := List.mem_map.mp hx
    nofun
theorem cr_maxDef (hc : X.calm = true) (hu : X.A.units + 64 < cLine) : CallRK X (.builtin "max") [Str.ofString "default"] (fun xs zs H Q => ∃ (a : Addr) (ns : List Int) (d : Int), xs = [V.ref a] ∧ zs = [V.int d] ∧ SqL X.K H a (ns.map V.int) ∧ Q (.int (maxDef ns d)) H) := by
  intro pins s σ H xs zs us ws Q I r1 r2 h
  obtain ⟨a, ns, d, rfl, rfl, hq, q⟩ := h
  obtain ⟨u, rfl, rx⟩ := r1.one
  cases rx
  obtain ⟨y, rfl, ry⟩ := r2.one
  obtain ⟨t, rfl⟩ := ry
  obtain ⟨its, rv, pl, hz⟩ := I.list hq
  obtain ⟨as, hr⟩ := RepL.reads (F := fun _ => none) I (fun _ _ e => by cases e) (ns.map .int) (ns.map V.int) its (repL_ints ns) rv
  refine PySem.W.max_list_default (I.ok.hd hc) pl.isList (xs := ns.map .int) (show ReadsAll s.heap its.toArray.toList (ns.map .int) as from hr) (alikeA_ints ns) (by rw [depth_ints]; omega) (fun h0 h' tk hk => ?_) (fun y ys i v h' tk bs e hi hv hk => ?_)
  · have : ns = [] := List.map_eq_nil_iff.mp h0
    subst this
    exact ⟨.int d, H, I.kept hk, ⟨t, rfl⟩, q⟩
  · cases ns with
    | nil => cases e
    | cons n r =>
      cases e
      rw [PySem.W.maxD_ints] at hv
      cases hv with
      | int _ t' => exact ⟨.int (r.foldl max n), H, I.kept hk, ⟨t', rfl⟩, q⟩
def mMaxDef (ma mb : M EV) : M EV := ma.bind fun a => mb.bind fun b => fun env g => match look env a, b with
  | some x, .d y => M.opt ((pyMaxDef x y).map EV.d) env g
  | _, _ => .bad
theorem de_maxDef (hc : X.calm = true) (hu : X.A.units + 64 < cLine) (hg : Gl X x) (hm : X.mg x = none) (hv : bootBuiltins x = some (.builtin "max")) {ma mb : M EV} (ho : DE X C e ma) (hf : DE X C f mb)
    (hn : x ≠ "__name__" := by decide) (hdb : (x == ("__debug__" : Str)) = false := by decide)
    (he0 : starEach [e] X.env = (false, eval e X.env) :: starEach [] X.env := by rfl)
    (he : backTo pos (starEach [e] X.env) = (false, eval e X.env) :: backTo pos (starEach [] X.env) := by rfl) (hpl : (backTo pos (starEach [e] X.env)).any (·.1) = false := by rfl)
    (hall : (backToKw pos (keywordEach [⟨some "default", f, kpos⟩] X.env)).all (·.1.isSome) = true := by rfl) (hnone : (backToKw pos (keywordEach [⟨some "default", f, kpos⟩] X.env)).any (·.1.isNone) = false := by rfl) (hks : (backToKw pos (keywordEach [⟨some "default", f, kpos⟩] X.env)).filterMap (·.1) = [Str.ofString "default"] := by rfl) :
    DE X C (.Call (.Name x p) [e] [⟨some "default", f, kpos⟩] pos) (mMaxDef ma mb) := by
  refine ⟨fun hK => ?_⟩
  obtain ⟨ta, h1, s1⟩ := ho.run hK
  obtain ⟨tb, h2, s2⟩ := hf.run hK
  refine ⟨_, pe_callBK (cr_maxDef hc hu) hg hm hv (pa_cons h1 pa_nil he0) (pk_cons h2 pk_nil) hn hdb he hpl hall hnone hks, fun σ F H l env g Q R w => ?_⟩
  refine s1 σ F H l env g _ R (Wp.mono (Wp.bind.mp w) (fun a env1 g1 w v F1 H1 l1 R1 x1 r1 f1 => ?_) fun _ _ _ _ w => w)
  refine s2 σ F1 H1 l1 env1 g1 _ R1 (Wp.mono (Wp.bind.mp w) (fun b env2 g2 w u F2 H2 l2 R2 x2 r2 f2 => ?_) fun _ _ _ _ w => w)
  split at w
  · rename_i x y e1
    cases hg : pyMaxDef x y with
    | none => rw [hg] at w; exact w.elim
    | some z =>
      rw [hg] at w
      unfold pyMaxDef at hg
      split at hg
      · rename_i ds d
        obtain ⟨ns, h3, rfl⟩ := Option.map_eq_some_iff.mp hg
        have b1 := (r1.up x2).look R2 e1
        rw [intsOf_eq h3] at b1
        obtain ⟨c, us, rfl, q1, q2⟩ := b1.seq R2.sub
        rw [repL_ints_of q2] at q1
        have hd : u = .int d := (rep_int (K := C.K) (F := F2)).mp r2
        subst hd
        exact ⟨c, ns, d, rfl, rfl, SqL.of q1, w (.int (maxDef ns d)) F2 H2 l2 R2 (x1.trans (C := C) x2) ((rep_int (K := C.K) (F := F2)).mpr rfl) trivial⟩
      · cases hg
  · exact w.elim
end
def sMaxDef (a b : S PyData) : S PyData := a >>= fun x => b >>= fun y => S.opt (pyMaxDef x y)
theorem te_maxDef {t t1 t2 : List SS} {ma mb : M EV} {a b : S PyData} (ha : T VA t ma a t1) (hb : T HA t1 mb b t2) : T HD t (mMaxDef ma mb) (sMaxDef a b) t2 := by
  intro e g z g' f q
  obtain ⟨x, g1, q1, q⟩ := S.inv q
  obtain ⟨y, g2, q2, q⟩ := S.inv q
  obtain ⟨q3, rfl⟩ := S.invO q
  obtain ⟨u, e1, h1, f1, k1, r1⟩ := ha e g x g1 f q1
  obtain ⟨v, e2, h2, f2, k2, r2⟩ := hb e1 g1 y _ f1 q2
  have r2 : v = .d y := by
    rcases r2 with r2 | ⟨_, r2⟩
    · exact r2
    · unfold pyMaxDef at q3
      split at q3
      · cases r2
      · cases q3
  subst r2
  refine ⟨.d z, e2, ?_, f2, k1.trans k2, rfl⟩
  unfold mMaxDef
  rw [bind_eq h1, bind_eq h2]
  simp only [(k2.va r1).1, q3, Option.map_some, M.opt, M.pure]
theorem intsOf_ints : ∀ ns : List Int, intsOf (ns.map .int) = some ns
  | [] => rfl
  | n :: r => by rw [List.map_cons]; unfold intsOf; rw [intsOf_ints r]; rfl
end DL
namespace DL
open PySem L2
/-! dict(pairs) with tuples as keys; sorted(dict(pairs)) -/
def tpairs : List PyData → Option (List (List Key × PyData))
  | [] => some []
  | .tuple [k, v] :: r => match keyT k with
    | some ks => (tpairs r).map fun ps => (ks, v) :: ps
    | none => none
  | _ => none
def putAllT (ps : List (List Key × PyData)) : TD := ps.foldl (fun r p => putT r p.1 p.2) []
def pyDictT (x : PyData) : Option TD := match x with
  | .list ds => (tpairs ds).map putAllT
  | _ => none
theorem tpairs_cons {d : PyData} {ds : List PyData} {ps : List (List Key × PyData)} (h : tpairs (d :: ds) = some ps) : ∃ k ks v qs, d = .tuple [k, v] ∧ keyT k = some ks ∧ tpairs ds = some qs ∧ ps = (ks, v) :: qs := by
  unfold tpairs at h
  split at h
  · rename_i e; cases e
  · rename_i k v r e
    injection e with e1 e2
    subst e1 e2
    split at h
    · rename_i ks e3
      obtain ⟨qs, h1, rfl⟩ := Option.map_eq_some_iff.mp h
      exact ⟨k, ks, v, qs, rfl, e3, h1, rfl⟩
    · cases h
  · cases h
/-- one pair in H -/
def PairH (K : PySem.W.Frag) (H : Hp) (v : V) (p : List Key × V) : Prop := ∃ t b, v = V.ref t ∧ SqT K H t [V.ref b, p.2] ∧ H b = some (.tup (p.1.map kV))
theorem tpairs_at {K : PySem.W.Frag} {F H : Hp} (hs : Same F H) : ∀ {ds : List PyData} {ps : List (List Key × PyData)} {vs : List V}, tpairs ds = some ps → RepL K F vs ds →
    ∃ kv : List (List Key × V), Paired (PairH K H) vs kv ∧ Paired (fun (p : List Key × V) (q : List Key × PyData) => p.1 = q.1 ∧ Rep K F p.2 q.2) kv ps
  | [], ps, vs, h, r => by
    cases h
    rw [repL_nil.mp r]
    exact ⟨[], .nil, .nil⟩
  | d :: ds, ps, vs, h, r => by
    obtain ⟨k, ks, v, qs, rfl, h0, h1, rfl⟩ := tpairs_cons h
    obtain ⟨u, us, rfl, q, t⟩ := repL_cons.mp r
    obtain ⟨a, ws, rfl, q1, q2⟩ := rep_tupS q
    obtain ⟨w1, r1, rfl, q3, q4⟩ := repL_cons.mp q2
    obtain ⟨w2, r2, rfl, q5, q6⟩ := repL_cons.mp q4
    rw [repL_nil] at q6
    subst q6
    obtain ⟨b, rfl, q7⟩ := key_at q3 h0
    obtain ⟨kv, p1, p2⟩ := tpairs_at hs h1 t
    exact ⟨(ks, w2) :: kv, .cons ⟨a, b, rfl, SqT.up hs q1, hs _ _ q7⟩ p1, .cons ⟨rfl, q5⟩ p2⟩
theorem repT_putAll {K : PySem.W.Frag} {F : Hp} {kv : List (List Key × V)} {ps : List (List Key × PyData)} (h : Paired (fun (p : List Key × V) (q : List Key × PyData) => p.1 = q.1 ∧ Rep K F p.2 q.2) kv ps) :
    ∀ {a : List (List Key × V)} {r : TD}, RepT K F a r → RepT K F (kv.foldl (fun a p => putK a p.1 p.2) a) (ps.foldl (fun r p => putT r p.1 p.2) r) := by
  induction h with
  | nil => exact fun q => q
  | @cons p q ps qs hq t ih =>
    intro a r q0
    rw [List.foldl_cons, List.foldl_cons]
    refine ih ?_
    rw [hq.1]
    exact q0.put hq.2
theorem kt_putAll {H : Hp} {kv : List (List Key × V)} {xs : List (List Key × Addr × Value)} (h : L2.KT H kv xs) :
    ∀ {a : List (List Key × V)} {ys : List (List Key × Addr × Value)}, L2.KT H a ys → L2.KT H (kv.foldl (fun a p => putK a p.1 p.2) a) (storedAllH ys xs) := by
  induction h with
  | nil => exact fun q => q
  | @cons p q ps qs hq t ih =>
    intro a r q0
    rw [List.foldl_cons]
    show L2.KT H _ (storedAllH (storedH r q.1 q.2.1 q.2.2) qs)
    refine ih ?_
    rw [← hq.1]
    exact q0.put p.1 hq.2.1 hq.2.2
theorem putAll_len (kv : List (List Key × V)) : ∀ a : List (List Key × V), (kv.foldl (fun a p => putK a p.1 p.2) a).length ≤ a.length + kv.length := by
  induction kv with
  | nil => exact fun a => Nat.le_refl _
  | cons p kv ih =>
    intro a
    rw [List.foldl_cons]
    have h1 := ih (putK a p.1 p.2)
    have h2 := length_putK a p.1 p.2
    simp only [List.length_cons]
    omega
section
variable {X : Cx}
def rDictT (K : PySem.W.Frag) : List V → Hp → VK → Prop := fun xs H Q => ∃ (a : Addr) (vs : List V) (kv : List (List Key × V)), xs = [V.ref a] ∧ SqL K H a vs ∧ Paired (PairH K H) vs kv ∧
  ∀ q, H q = none → Q (.ref q) (upd H q (.dT (kv.foldl (fun a p => putK a p.1 p.2) [])))
theorem pairsH_of {pins : List (Addr × Obj)} {σ : L2.St} {H : Hp} {s : Shared} (I : Inv X pins σ H s) : ∀ {vs : List V} {its : List Value} {kv : List (List Key × V)}, Paired (PairH X.K H) vs kv → Vals vs its →
    ∃ (ts : List Addr) (xs : List (List Key × Addr × Value)), its = ts.map Value.ref ∧ L2.KT H kv xs ∧ ts.length = xs.length ∧ ∀ (j : Nat) t x, ts[j]? = some t → xs[j]? = some x → PairAt s.heap t (.ref x.2.1) x.2.2
  | _, _, _, .nil, r => by
    cases r
    exact ⟨[], [], rfl, .nil, rfl, fun j t x e => by simp at e⟩
  | _, _, _, .cons (a := v) (b := p) h t, r => by
    cases r with
    | @cons _ u _ us ru rt =>
      obtain ⟨c, b, rfl, hq, hb⟩ := h
      cases ru
      obtain ⟨ts, xs, rfl, g1, g2, g3⟩ := pairsH_of I t rt
      obtain ⟨its2, rv, pl, hz⟩ := I.tuple hq
      obtain ⟨u1, u2, rfl, e1, e2⟩ := rv.two
      cases e1
      refine ⟨c :: ts, (p.1, b, u2) :: xs, rfl, .cons ⟨rfl, hb, e2⟩ g1, by simp [g2], fun j t x e e' => ?_⟩
      cases j with
      | zero =>
        rw [List.getElem?_cons_zero] at e e'
        cases e
        cases e'
        exact .inl (show s.heap.IsTuple c _ from pl)
      | succ j => exact g3 j t x (by simpa using e) (by simpa using e')
theorem cr_dictT (hc : X.calm = true) (hu : X.A.units + 64 < cLine) : CallR X (.type "dict") (rDictT X.K) := by
  intro pins s σ H xs us Q I r h
  obtain ⟨a, vs, kv, rfl, hq, hp, q⟩ := h
  obtain ⟨u, rfl, rx⟩ := r.one
  cases rx
  obtain ⟨its, rv, pl, hz⟩ := I.list hq
  obtain ⟨ts, xs, rfl, g1, g2, g3⟩ := pairsH_of I hp rv
  have l1 : kv.length = xs.length := Paired.length g1
  have l2 : vs.length = xs.length := by rw [rv.length, List.length_map, g2]
  let ps : List (Value × Value) := xs.map fun x => (Value.ref x.2.1, x.2.2)
  have lps : ps.length = xs.length := List.length_map _
  have P := PairArg.list (prog := X.prog) (w := X.w) a (ts.map Value.ref).toArray (fun j => (ts[j]?).getD 0) ps
  have stay : ∀ x ∈ xs, ∀ h' : Heap, (∀ b o, b ≠ s.heap.objs.size → b ∉ ([] : List Addr) → s.heap.get? b = some o → h'.get? b = some o) → (tupleKind (mixKind X.prog X.w)).is h' x.1 x.2.1 := by
    intro x hx h' hk
    have key : ∃ p ∈ kv, p.1 = x.1 ∧ H x.2.1 = some (.tup (p.1.map kV)) := by
      clear q hp l1 l2 lps P g3 ps g2
      induction g1 with
      | nil => cases hx
      | @cons p q _ _ hq t ih =>
        rcases List.mem_cons.mp hx with rfl | hx
        · exact ⟨p, by simp, hq.1, hq.2.1⟩
        · obtain ⟨p', m1, m2⟩ := ih hx
          exact ⟨p', List.mem_cons_of_mem _ m1, m2⟩
    obtain ⟨p, _, e1, e2⟩ := key
    rw [← e1]
    obtain ⟨_, its, r, o, h1, h2, n, h3⟩ := (show ObjOk X.prog X.w H s.heap x.2.1 (.tup (p.1.map kV)) from I.hok _ _ e2)
    exact ⟨o, its.toArray, n, hk _ o (Nat.ne_of_lt (Heap.lt_size h1)) (by simp) h1, h2, h3, by simpa using items_are r⟩
  have gp : ∀ (i : Nat) k v, ps[i]? = some (k, v) → ∃ x t, xs[i]? = some x ∧ ts[i]? = some t ∧ k = .ref x.2.1 ∧ v = x.2.2 := fun i k v e => by
    rw [List.getElem?_map] at e
    obtain ⟨x, e1, e2⟩ := Option.map_eq_some_iff.mp e
    cases e2
    have hi : i < ts.length := by rw [g2]; exact (List.getElem?_eq_some_iff.mp e1).1
    exact ⟨x, ts[i], e1, List.getElem?_eq_getElem hi, rfl, rfl⟩
  refine call_dict_pairsH (knd := tupleKind (mixKind X.prog X.w)) (ps := xs) P (I.ok.hd hc) (show X.A.in1.in1.units < cLine by show X.A.units + 1 + 1 < cLine; omega) ⟨pl, ?_, fun j k v e => ?_⟩ ⟨lps.symm, fun i k v e => ?_⟩ (fun h' hk x hx => stay x hx h' hk) (by rw [lps, ← l2]; exact hz) fun h' tk dd hk => ?_
  · rw [lps, List.size_toArray, List.length_map, g2]
  · obtain ⟨x, t, e1, e2, rfl, rfl⟩ := gp j k v e
    have e3 : (fun j => (ts[j]?).getD 0) j = t := by show (ts[j]?).getD 0 = t; rw [e2]; rfl
    refine ⟨?_, ?_⟩
    · rw [e3, List.getElem?_toArray, List.getElem?_map, e2]
      rfl
    · rw [e3]
      exact g3 j t x e2 e1
  · obtain ⟨x, t, e1, e2, rfl, rfl⟩ := gp i k v e
    exact ⟨x.1, x.2.1, e1, rfl⟩
  · have hk' : ∀ b o, s.heap.get? b = some o → h'.get? b = some o := fun b o e => hk b o (by simp) e
    have hn := I.hok.fresh (Nat.le_refl s.heap.objs.size)
    obtain ⟨o, es, ep, h1, h2, h3, h4, _, h5⟩ := dd
    have hlen := putAll_len kv []
    have hg : (s.heap.objs.size == sysModules) = false := by
      have := I.big
      exact beq_eq_false_iff_ne.mpr (Nat.ne_of_gt this)
    refine ⟨.ref s.heap.objs.size, _, I.laid (a := s.heap.objs.size) (o := .dT (kv.foldl (fun a p => putK a p.1 p.2) [])) (t' := tk) hk' (Nat.le_refl _) ⟨by simp at hlen; omega, hg, _, (kt_putAll g1 .nil).keeps fun c ys ec => ?_, o, es, ep, h1, h2, h3, h4, h5⟩, rfl, q _ hn⟩
    rw [upd_ne (ne_of_none ec hn)]
    exact ec
end
section
variable {X : Cx} {C : DCx} {e : Expr} {pos p pos' p' : Pos} {x y : Str}
def mDictT (ma : M EV) : M EV := ma.bind fun a => fun env g => match look env a with
  | some d => M.opt ((pyDictT d).map fun r => EV.fr (mkT r)) env g
  | none => .bad
theorem de_dictT (hc : X.calm = true) (hu : X.A.units + 64 < cLine) (hg : Gl X x) (hm : X.mg x = none) (hv : bootBuiltins x = some (.type "dict")) {ma : M EV} (ho : DE X C e ma)
    (hn : x ≠ "__name__" := by decide) (hdb : (x == ("__debug__" : Str)) = false := by decide) (he : starEach [e] X.env = (false, eval e X.env) :: starEach [] X.env := by rfl) (hpl : (backTo pos (starEach [] X.env)).any (·.1) = false := by rfl) :
    DE X C (.Call (.Name x p) [e] [] pos) (mDictT ma) := by
  refine ⟨fun hK => ?_⟩
  obtain ⟨t, h1, s1⟩ := ho.run hK
  refine ⟨_, pe_callTy (cr_dictT hc hu) hg hm hv (pa_cons h1 pa_nil he) hn hdb he hpl, fun σ F H l env g Q R w => ?_⟩
  refine s1 σ F H l env g _ R (Wp.mono (Wp.bind.mp w) (fun a env1 g1 w v F1 H1 l1 R1 x1 r1 f1 => ?_) fun _ _ _ _ w => w)
  split at w
  · rename_i d e1
    cases hd : pyDictT d with
    | none => rw [hd] at w; exact w.elim
    | some r =>
      rw [hd] at w
      unfold pyDictT at hd
      split at hd
      · rename_i ds
        obtain ⟨ps, h3, rfl⟩ := Option.map_eq_some_iff.mp hd
        obtain ⟨c, vs, rfl, q1, q2⟩ := (r1.look R1 e1).seq R1.sub
        obtain ⟨kv, p1, p2⟩ := tpairs_at R1.sub h3 q2
        rw [hK] at p1 p2
        refine ⟨c, vs, kv, rfl, SqL.of q1, p1, fun q hq => ?_⟩
        have nF := none_sub R1.sub hq
        have w' : KE C σ F1 H1 l1 env1 Q (.fr (mkT (putAllT ps))) env1 g1 := KE.up w x1
        have rt := repT_putAll p2 (a := []) (r := []) rfl
        generalize hz : mkT (putAllT ps) = z at w'
        refine (KE.res (r := RV.fr z) R1 w') (V.ref q) F1 (upd H1 q (.dT _)) ⟨.refl _, Same.upd hq, R1.sub.trans (Same.upd hq), fun _ e => .inl e, q, rfl, hq, nF, ?_⟩
        subst hz
        rw [hK]
        exact .inr ⟨_, _, rfl, upd_same, rt⟩
      · cases hd
  · exact w.elim
/-- sorted(e), e a new dict -/
def mSortE (ma : M EV) : M EV := ma.bind fun a => fun env g => match a with
  | .fr d => match tdIn d with
    | some r => if sortOk (r.map (·.1)) = true then .ok (.fr (.list (sortD (r.map (·.1))))) env g else .bad
    | none => .bad
  | _ => .bad
theorem de_sortE (hc : X.calm = true) (hu : X.A.units + 64 < cLine) (hg : Gl X x) (hm : X.mg x = none) (hv : bootBuiltins x = some (.builtin "sorted")) {ma : M EV} (ho : DE X C e ma)
    (hn : x ≠ "__name__" := by decide) (hdb : (x == ("__debug__" : Str)) = false := by decide) (he : starEach [e] X.env = (false, eval e X.env) :: starEach [] X.env := by rfl) (hpl : (backTo pos (starEach [] X.env)).any (·.1) = false := by rfl) :
    DE X C (.Call (.Name x p) [e] [] pos) (mSortE ma) := by
  refine ⟨fun hK => ?_⟩
  obtain ⟨t, h1, s1⟩ := ho.run hK
  refine ⟨_, pe_callB (cr_sortT hc hu) hg hm hv (pa_cons h1 pa_nil he) hn hdb he hpl, fun σ F H l env g Q R w => ?_⟩
  refine s1 σ F H l env g _ R (Wp.mono (Wp.bind.mp w) (fun a env1 g1 w v F1 H1 l1 R1 x1 r1 f1 => ?_) fun _ _ _ _ w => w)
  split at w
  · rename_i d
    split at w
    · rename_i r e1
      obtain ⟨hok, w⟩ := wp_iteR w
      rw [tdOf_eq e1] at r1
      obtain ⟨c, rfl, o, _⟩ := r1
      obtain ⟨kv, k2, k3⟩ := o.dT
      have w' : KE C σ F1 H1 l1 env1 Q (.fr (.list (sortD (r.map (·.1))))) env1 g1 := KE.up w x1
      generalize hz : PyData.list (sortD (r.map (·.1))) = z at w'
      have hr := KE.res (r := RV.fr z) R1 w'
      subst hz
      rw [hK] at k3 hr
      exact ⟨c, kv, F1, r, rfl, k2, R1.sub, k3, hok, hr⟩
    · exact w.elim
  · exact w.elim
end
theorem bt_dict : bootBuiltins "dict" = some (.type "dict") := by decide +kernel
def sDictT (a : S PyData) : S PyData := a >>= fun x => S.opt ((pyDictT x).map mkT)
def sSortE (a : S PyData) : S PyData := a >>= fun x => S.opt (match tdIn x with
  | some r => if sortOk (r.map (·.1)) = true then some (.list (sortD (r.map (·.1)))) else none
  | none => none)
/-- a new dict -/
def FT (_ : Env') (ev : EV) (x : PyData) : Prop := ev = .fr x
theorem te_dictT {t t1 : List SS} {ma : M EV} {a : S PyData} (ha : T VA t ma a t1) : T FT t (mDictT ma) (sDictT a) t1 := by
  intro e g z g' f q
  obtain ⟨x, g1, q1, q⟩ := S.inv q
  obtain ⟨q3, rfl⟩ := S.invO q
  obtain ⟨u, e1, h1, f1, k1, r1⟩ := ha e g x _ f q1
  obtain ⟨r, h3, rfl⟩ := Option.map_eq_some_iff.mp q3
  refine ⟨.fr (mkT r), e1, ?_, f1, k1, rfl⟩
  unfold mDictT
  rw [bind_eq h1]
  simp only [r1.1, h3, Option.map_some, M.opt, M.pure]
theorem te_sortE {t t1 : List SS} {ma : M EV} {a : S PyData} (ha : T FT t ma a t1) : T FR t (mSortE ma) (sSortE a) t1 := by
  intro e g z g' f q
  obtain ⟨x, g1, q1, q⟩ := S.inv q
  obtain ⟨q3, rfl⟩ := S.invO q
  obtain ⟨u, e1, h1, f1, k1, r1⟩ := ha e g x _ f q1
  have r1 : u = .fr x := r1
  subst r1
  cases hd : tdIn x with
  | none => rw [hd] at q3; cases q3
  | some r =>
    rw [hd] at q3
    have q3 : (if sortOk (r.map (·.1)) = true then some (PyData.list (sortD (r.map (·.1)))) else none) = some z := q3
    by_cases hz : sortOk (r.map (·.1)) = true
    · rw [if_pos hz] at q3
      cases q3
      refine ⟨.fr (.list (sortD (r.map (·.1)))), e1, ?_, f1, k1, FR.of rfl⟩
      unfold mSortE
      rw [bind_eq h1]
      simp only [hd, hz, if_true]
    · rw [if_neg hz] at q3; cases q3
end DL
namespace DL
open PySem L2
/-! dict(pairs).get(k, d) -/
section
variable {X : Cx} {C : DCx} {o e f : Expr} {apos cpos : Pos}
def mGetE (ma : M EV) (mk md : M PyData) : M EV := ma.bind fun a => fun env g => match a with
  | .fr x => match tdIn x with
    | some r => (mk.bind fun k => md.bind fun d => fun env g => match keyT k with
      | some ks => .ok (.d ((getT r ks).getD d)) env g
      | none => .bad) env g
    | none => .bad
  | _ => .bad
theorem de_getE (hu : X.A.units + 1 < cLine) {ma : M EV} (ho : DE X C o ma) {mk md : M PyData} (he : DD X C e mk) (hf : DD X C f md)
    (m : M2 X o "get" apos e f cpos := by exact ⟨rfl, rfl, rfl, rfl⟩) : DE X C (.Call (.Attribute o "get" apos) [e, f] [] cpos) (mGetE ma mk md) := by
  refine ⟨fun hK => ?_⟩
  obtain ⟨t0, h0, s0⟩ := ho.run hK
  obtain ⟨t1, h1, s1⟩ := he.run hK
  obtain ⟨t2, h2, s2⟩ := hf.run hK
  refine ⟨_, pe_dget2 hu h0 h1 h2 m, fun σ F H l env g Q R w => ?_⟩
  refine s0 σ F H l env g _ R (Wp.mono (Wp.bind.mp w) (fun a env0 g0 w v F0 H0 l0 R0 x0 r0 f0 => ?_) fun _ _ _ _ w => w)
  split at w
  · rename_i x
    split at w
    · rename_i r e1
      rw [tdOf_eq e1] at r0
      have r0' : RepEV C σ F0 H0 l0 env0 v (.fr (mkT r)) := r0
      obtain ⟨c, rfl, o0, _⟩ := r0
      obtain ⟨kv0, k2, k3⟩ := o0.dT
      refine ⟨c, rfl, .inr ⟨kv0, .inl k2⟩, ?_⟩
      refine s1 σ F0 H0 l0 env0 g0 _ R0 (Wp.mono (Wp.bind.mp w) (fun k env1 gg w v F1 H1 l1 R1 x1 q1 => ?_) fun _ _ _ _ w => w)
      refine s2 σ F1 H1 l1 env1 gg _ R1 (Wp.mono (Wp.bind.mp w) (fun d env2 gg2 w u F2 H2 l2 R2 x2 q2 => ?_) fun _ _ _ _ w => w)
      have r2 := (r0'.up x1).up x2
      obtain ⟨c', ec, o2, _⟩ := r2
      cases ec
      obtain ⟨kv, z2, z3⟩ := o2.dT
      split at w
      · rename_i ks e2
        obtain ⟨b, rfl, k4⟩ := key_at (Rep.up x2.fs _ _ q1) e2
        refine ⟨valV kv ks, DGet.t z2 (R2.sub _ _ k4), ?_⟩
        have x12 := (x0.trans (C := C) x1).trans (C := C) x2
        rcases z3.get ks with ⟨y1, y2⟩ | ⟨v', d', y1, y2, y3⟩
        · rw [y1]
          rw [y2] at w
          exact w u F2 H2 l2 R2 x12 q2 trivial
        · rw [y1]
          rw [y2] at w
          exact w v' F2 H2 l2 R2 x12 y3 trivial
      · exact w.elim
    · exact w.elim
  · exact w.elim
end
def sGetE (a k d : S PyData) : S PyData := a >>= fun x => k >>= fun k => d >>= fun d => S.opt (match tdIn x, keyT k with
  | some r, some ks => some ((getT r ks).getD d)
  | _, _ => none)
theorem te_getE {t t1 t2 t3 : List SS} {ma : M EV} {mk md : M PyData} {sa sk sd : S PyData} (ha : T FT t ma sa t1) (hk : T EQ t1 mk sk t2) (hd : T EQ t2 md sd t3) : T HD t (mGetE ma mk md) (sGetE sa sk sd) t3 := by
  intro e g z g' f q
  obtain ⟨x, g1, q1, q⟩ := S.inv q
  obtain ⟨k, g2, q2, q⟩ := S.inv q
  obtain ⟨d, g3, q4, q⟩ := S.inv q
  obtain ⟨q3, rfl⟩ := S.invO q
  obtain ⟨u, e1, h1, f1, k1, r1⟩ := ha e g x _ f q1
  have r1 : u = .fr x := r1
  subst r1
  obtain ⟨a1, e2, p1, f2, k2, z1⟩ := hk e1 g1 k g2 f1 q2
  obtain ⟨a2, e3, p2, f3, k3, z2⟩ := hd e2 g2 d _ f2 q4
  rw [show a1 = k from z1] at p1
  rw [show a2 = d from z2] at p2
  cases hr : tdIn x with
  | none => rw [hr] at q3; cases q3
  | some r =>
    rw [hr] at q3
    cases hks : keyT k with
    | none => rw [hks] at q3; cases q3
    | some ks =>
      rw [hks] at q3
      cases q3
      refine ⟨_, e3, ?_, f3, (k1.trans k2).trans k3, rfl⟩
      unfold mGetE
      rw [bind_eq h1]
      simp only [hr]
      rw [bind_eq p1, bind_eq p2]
      simp only [hks]
end DL
namespace DL
open PySem L2
section
open PySem MeetsSeq AutoSeq1
set_option maxRecDepth 8000 in
theorem list_extend_tup (l : Addr) (items : Array Value) (n : Nat) (b : Addr) (items2 : Array Value) (n2 : Nat) (dct : Option Addr) (sl : Array (Option Value)) (hs0 : ¬(!items.isEmpty && Builtin.List.listTooLong (items.size + items2.size)) = true) (hs1 : items.size ≤ sizeLine) (hs2 : items.size + items2.size ≤ sizeLine + 1 := by seq_fits) :
    Meets (Builtin.«list.extend» ⟨[.ref l, .ref b], []⟩) (fun _ R s => s.heap.get? l = some { cls := .type "list", dict := none, data := .seq items n, slots := #[] } ∧ s.heap.get? b = some { cls := .type "tuple", dict := dct, data := .seq items2 n2, slots := sl } ∧ R (.ok (.ret Value.none)) { s with heap := s.heap.update l (Obj.mapSeq fun x => x ++ items2), toks := s.toks }) :=
  .of_wp fun prog w A R s h => by
    obtain ⟨hp, g, d, tk, os⟩ := s; obtain ⟨hl, hb, h⟩ := h; have f1 := idx_int; have f2 := sub_tuple_tuple; have f3 := sub_list_list; have f4 := sub_tuple_list; have f5 := sub_list_tuple;
    have hz' : (items ++ items2).size ≤ sizeLine + 1 := by rw [Array.size_append]; exact hs2
    wp_walk using (wpAny_updateSeq hl rfl (hz := hs1) (_hz' := hz')), wpAny_loadPart' hl, wpAny_loadPart' hb; exact ⟨_, rfl, h⟩
end
section
variable {X : Cx}
def rExtA (K : PySem.W.Frag) : V → List V → Hp → VK → Prop := fun x vs H Q => ∃ l b xs zs, x = .ref l ∧ vs = [.ref b] ∧ H l = some (.lst xs) ∧ (H b = some (.lst zs) ∨ SqT K H b zs) ∧ xs.length + zs.length ≤ sizeLine ∧ Q .non (upd H l (.lst (xs ++ zs)))
theorem mt_extA : MtM X "list.extend" (rExtA X.K) := by
  intro pins s σ H x vs v us Q I rx rv h
  obtain ⟨l, b, xs, zs, rfl, rfl, hH, hB, hz, q⟩ := h
  rcases hB with hB | hB
  · exact mt_extend (X := X) pins s σ H (.ref l) [.ref b] v us Q I rx rv ⟨l, b, xs, zs, rfl, rfl, hH, hB, hz, q⟩
  cases rx
  obtain ⟨u, rfl, ru⟩ := rv.one
  cases ru
  obtain ⟨z, its, n, r, hl, e⟩ := I.lstM hH
  obtain ⟨its2, r2, ⟨o2, e2, c2, n2, d2⟩, hl2⟩ := I.tuple hB
  obtain ⟨cc, dct, dat, sl⟩ := o2
  dsimp only at c2 d2
  subst c2 d2
  have l1 : xs.length = its.length := r.length
  have l2 : zs.length = its2.length := r2.length
  have hsz : its.toArray.size + its2.toArray.size ≤ sizeLine := by rw [List.size_toArray, List.size_toArray]; omega
  have hlong : ¬ (!its.toArray.isEmpty && Builtin.List.listTooLong (its.toArray.size + its2.toArray.size)) = true := by
    rw [notLongL hsz, Bool.and_false]
    exact Bool.false_ne_true
  refine call_meets F.slot_list_extend ⟨_, e, rfl⟩ F.entry_list_extend (F.args_list_extend_2 _ _)
    (list_extend_tup l its.toArray n b its2.toArray n2 dct sl hlong (by rw [List.size_toArray]; omega) (by omega)) ⟨e, e2, ?_⟩
  refine ⟨.non, _, I.lset (its' := its ++ its2) hH e (by simp) (r.append r2) ?_, rfl, q⟩
  rw [List.length_append]
  omega
end
def mExtendA (i : Nat) (ma : M EV) : M EV := ma.bind fun a => fun env g =>
  match look env a, ownL i env with
  | some (.list es), some ds => if ds.length + es.length ≤ sizeLine then .ok (.d .none) (env.set i (.own (.list (ds ++ es)))) g else .bad
  | some (.tuple es), some ds => if ds.length + es.length ≤ sizeLine then .ok (.d .none) (env.set i (.own (.list (ds ++ es)))) g else .bad
  | _, _ => .bad
section
variable {X : Cx} {C : DCx} {o e : Expr} {apos cpos : Pos} {i : Nat}
theorem de_extendA (ho : PE X o (tVar i)) {m : M EV} (he : DE X C e m)
    (hbase : attributeBase o "extend" X.env (eval o X.env) = eval o X.env := by rfl)
    (hfew : ((backTo cpos (starEach [e] X.env)).all (fun x => !x.1) && (backToKw cpos (keywordEach [] X.env)).all (fun x => x.1.isSome) && decide ([e].length + ([] : List Keyword).length + (if ([] : List Keyword).isEmpty then 0 else 1) < 30)) = true := by rfl)
    (hline : (apos.endLine == cpos.line) = true := by rfl) (hs : starEach [e] X.env = (false, eval e X.env) :: starEach [] X.env := by rfl) (hplain : (backTo cpos (starEach [] X.env)).any (·.1) = false := by rfl) :
    DE X C (.Call (.Attribute o "extend" apos) [e] [] cpos) (mOn i (mExtendA i m)) := by
  refine ⟨fun hK => ?_⟩
  obtain ⟨t, ht, s⟩ := he.run hK
  refine ⟨_, pe_bm PySem.F.plainAttrs_list PySem.F.slot_list_extend PySem.F.type_list_extend (id := "list.extend") (show MtR X "list.extend" (rExtA X.K) from mt_extA) ho (pa_cons ht pa_nil hs) hbase hfew hline hs hplain, fun σ F H l env g Q R w => ?_⟩
  obtain ⟨h0, w⟩ := wp_iteR w
  obtain ⟨ds0, e0⟩ := ownIs_eq h0
  obtain ⟨a, vs0, g1, g2, g3⟩ := R.ownLst e0
  refine ⟨.ref a, g1, .inl ⟨rfl, vs0, SqL.of g2⟩, ?_⟩
  refine s σ F H l env g _ R (Wp.mono (Wp.bind.mp w) (fun d env1 gg w v F1 H1 l1 R1 x1 r1 f1 => ?_) fun _ _ _ _ w => w)
  split at w
  · rename_i es' ds h2 h1
    obtain ⟨hz, w⟩ := wp_iteR w
    have h1 := ownL_eq h1
    obtain ⟨b, vs, k1, k2, k3⟩ := R1.ownLst h1
    rw [g1] at k1
    cases k1
    obtain ⟨c, us, rfl, q1, q2⟩ := (r1.look R1 h2).seq R1.sub
    obtain ⟨R2, x2⟩ := R1.put h1 g1 (RepL.append k3 q2)
    exact ⟨a, c, vs, us, rfl, rfl, k2, .inl q1, by rw [k3.length, q2.length]; exact hz, w .non F1 _ l1 R2 (x1.trans (C := C) x2) RepEV.ofn trivial⟩
  · rename_i es' ds h2 h1
    obtain ⟨hz, w⟩ := wp_iteR w
    have h1 := ownL_eq h1
    obtain ⟨b, vs, k1, k2, k3⟩ := R1.ownLst h1
    rw [g1] at k1
    cases k1
    obtain ⟨c, us, rfl, q1, q2⟩ := (r1.look R1 h2).tup R1.sub
    obtain ⟨R2, x2⟩ := R1.put h1 g1 (RepL.append k3 q2)
    exact ⟨a, c, vs, us, rfl, rfl, k2, .inr (hK ▸ q1), by rw [k3.length, q2.length]; exact hz, w .non F1 _ l1 R2 (x1.trans (C := C) x2) RepEV.ofn trivial⟩
  · exact w.elim
end
def extAS : PyData → PyData → S PyData
  | .list ds, .list es => if ds.length + es.length ≤ sizeLine then pure (.list (ds ++ es)) else S.fail
  | .list ds, .tuple es => if ds.length + es.length ≤ sizeLine then pure (.list (ds ++ es)) else S.fail
  | _, _ => S.fail
theorem extAS_inv {x d y : PyData} {g g' : G} (h : extAS x d g = some (y, g')) : ∃ ds es, x = .list ds ∧ (d = .list es ∨ d = .tuple es) ∧ ds.length + es.length ≤ sizeLine ∧ y = .list (ds ++ es) ∧ g = g' := by
  cases x <;> first | (cases h; done) | skip
  cases d <;> first | (cases h; done) | skip
  all_goals
    rename_i ds es
    have h : (if ds.length + es.length ≤ sizeLine then (pure (.list (ds ++ es)) : S PyData) else S.fail) g = some (y, g') := h
    by_cases c : ds.length + es.length ≤ sizeLine
    · rw [if_pos c] at h
      obtain ⟨rfl, rfl⟩ := S.inv0 h
      exact ⟨ds, es, rfl, by first | exact .inl rfl | exact .inr rfl, c, rfl, rfl⟩
    · rw [if_neg c] at h; cases h
theorem tf_extendA {t t1 : List SS} {i : Nat} {x : PyData} {m : M EV} {s : S PyData} (h0 : t[i]? = some (.ow x)) (h : T VA t m s t1) (h2 : t1[i]? = some (.ow x)) :
    TF t (mDrop (mOn i (mExtendA i m))) (s >>= fun d => extAS x d) fun y => t1.set i (.ow y) := fun e g y g' f q => by
  obtain ⟨d, g1, q1, q2⟩ := S.inv q
  obtain ⟨d', e', h1, f1, _, hr⟩ := h e g d _ f q1
  obtain ⟨ds, es, rfl, hd, c, rfl, rfl⟩ := extAS_inv q2
  refine ⟨e'.set i (.own (.list (ds ++ es))), ?_, f1.set i (ow_ok rfl)⟩
  have hm : mOn i (mExtendA i m) e g = .ok (.d .none) (e'.set i (.own (.list (ds ++ es)))) g1 := by
    unfold mOn
    rw [if_pos (own_at (ow_get f h0)).1]
    unfold mExtendA
    rw [bind_eq h1]
    rcases hd with rfl | rfl <;> simp only [(own_at (ow_get f1 h2)).2, hr.1, c, if_true]
  unfold mDrop
  rw [bind_eq hm]
  rfl
end DL
namespace DL
open PySem L2
/-! zip of a list and a tuple, either way round -/
def SqB (K : PySem.W.Frag) (H : Hp) (k : Bool) (a : Addr) (xs : List V) : Prop := match k with
  | true => SqT K H a xs
  | false => SqL K H a xs
def ItB (h : Heap) (k : Bool) (it l : Addr) (i : Nat) : Prop := match k with
  | true => h.IsTupleIter it l i
  | false => h.IsListIter it l i
def PlB (h : Heap) (k : Bool) (a : Addr) (its : Array Value) : Prop := match k with
  | true => h.IsTuple a its
  | false => h.IsList a its
def obB (k : Bool) (l : Addr) : Obj := match k with
  | true => { cls := .type "tuple_iterator", data := .fields #[.ref l, .int 0 0] }
  | false => { cls := .type "list_iterator", data := .fields #[.ref l, .int 0 0] }
theorem ItB.at {h h' : Heap} {k : Bool} {it l : Addr} {i : Nat} (x : ItB h k it l i) (e : ∀ o, h.get? it = some o → h'.get? it = some o) : ItB h' k it l i := by
  cases k
  · exact Heap.IsListIter.at (show h.IsListIter it l i from x) e
  · exact Heap.IsTupleIter.at (show h.IsTupleIter it l i from x) e
theorem ItB.obj {h : Heap} {k : Bool} {it l : Addr} {i : Nat} (x : ItB h k it l i) : ∃ o, h.get? it = some o ∧ ∀ v, o.data ≠ .cell v := by
  cases k
  · obtain ⟨o, e, _, d⟩ := (show h.IsListIter it l i from x)
    exact ⟨o, e, fun v q => by rw [d] at q; cases q⟩
  · obtain ⟨o, e, _, d⟩ := (show h.IsTupleIter it l i from x)
    exact ⟨o, e, fun v q => by rw [d] at q; cases q⟩
theorem obB_it {h : Heap} {k : Bool} {it l : Addr} (e : h.get? it = some (obB k l)) : ItB h k it l 0 := by
  cases k <;> exact ⟨_, e, rfl, rfl⟩
theorem begins_B (k : Bool) (l : Addr) (its : Array Value) : Begins (.ref l) (obB k l) fun h => PlB h k l its := by
  cases k
  · exact begins_list l its
  · exact begins_tuple l its
theorem draws_B {prog : Program} {w : World} {A : Around} (hh : A.handled = none) (k : Bool) (it l : Addr) (hne : l ≠ it) (its : Array Value) : Draws prog w A it [it, l] its.size (fun i v => its[i]? = some v) (fun i h => ItB h k it l i ∧ PlB h k l its) := by
  cases k
  · exact Draws.list hh it l hne its
  · exact Draws.tuple hh it l hne its
section
variable {X : Cx} {pins : List (Addr × Obj)} {σ : L2.St} {H : Hp} {s : Shared}
theorem sqB_get (I : Inv X pins σ H s) {k : Bool} {a : Addr} {xs : List V} (h : SqB X.K H k a xs) : ∃ its : List Value, Vals xs its ∧ PlB s.heap k a its.toArray ∧ xs.length ≤ sizeLine := by
  cases k
  · obtain ⟨its, r, p, z⟩ := I.list (show SqL X.K H a xs from h)
    exact ⟨its, r, p.isList, z⟩
  · obtain ⟨its, r, p, z⟩ := I.tuple (show SqT X.K H a xs from h)
    exact ⟨its, r, p, z⟩
theorem sqB_inj (I : Inv X pins σ H s) {k : Bool} {a : Addr} {xs ys : List V} (h : SqB X.K H k a xs) (h' : SqB X.K H k a ys) : xs = ys := by
  cases k
  · exact I.list_inj h h'
  · exact I.tuple_inj h h'
theorem PlB.lt {h : Heap} {k : Bool} {a : Addr} {its : Array Value} (x : PlB h k a its) : ∃ o, h.get? a = some o := by
  cases k
  · obtain ⟨o, e, _⟩ := (show h.IsList a its from x); exact ⟨o, e⟩
  · obtain ⟨o, e, _⟩ := (show h.IsTuple a its from x); exact ⟨o, e⟩
end
def ItzM (K : PySem.W.Frag) (k1 k2 : Bool) (a b : Addr) : It :=
  ⟨fun i H => ∃ (xs ys : List V) (x y : V), SqB K H k1 a xs ∧ SqB K H k2 b ys ∧ xs[i]? = some x ∧ ys[i]? = some y,
    fun i H v H' => ∃ T x y, v = .ref T ∧ H T = none ∧ H' = upd H T (.tup [x, y]) ∧ (∀ xs, SqB K H k1 a xs → xs[i]? = some x) ∧ ∀ ys, SqB K H k2 b ys → ys[i]? = some y,
    fun i H => ∃ xs ys : List V, SqB K H k1 a xs ∧ SqB K H k2 b ys ∧ i = min xs.length ys.length⟩
theorem turn_zipM {P : Program} {w : World} {K : PySem.W.Frag} {elts : List Expr} {kk : Nat} {tpos : Pos} {k1 k2 : Bool} {a b z TI TO i1 i2 : Addr} (S : ZipSep2 z TI TO i1 i2 [i1, a] [i2, b]) (ha : a ≠ i1) (hb : b ≠ i2) :
    Turn P w K (.Tuple elts kk tpos) (ItzM K k1 k2 a b) [z, TI, TO, i1, i2] z (fun i h => IsZip h z TI TO .none ∧ IsTupOf2 h TI (.ref i1) (.ref i2) ∧ (∃ x y, IsTupOf2 h TO x y) ∧ ItB h k1 i1 a i ∧ ItB h k2 i2 b i) where
  mem := by simp
  obj := fun i h st c hc => by
    obtain ⟨hz, hTI, ⟨x, y, hTO⟩, h1, h2⟩ := st
    have e' : c = z ∨ c = TI ∨ c = TO ∨ c = i1 ∨ c = i2 := by simpa using hc
    rcases e' with rfl | rfl | rfl | rfl | rfl
    · exact ⟨_, hz, fun v q => nomatch q⟩
    · exact ⟨_, hTI, fun v q => nomatch q⟩
    · exact ⟨_, hTO, fun v q => nomatch q⟩
    · exact h1.obj
    · exact h2.obj
  keep := fun i h h' st k => by
    obtain ⟨hz, hTI, ⟨x, y, hTO⟩, h1, h2⟩ := st
    exact ⟨k z (by simp) _ hz, k TI (by simp) _ hTI, ⟨x, y, k TO (by simp) _ hTO⟩, h1.at fun o q => k i1 (by simp) o q, h2.at fun o q => k i2 (by simp) o q⟩
  item := by
    intro X hP hw hK hc i pins s σ H E I hf st hg
    subst hP hw hK
    obtain ⟨hz, hTI, ⟨x0, y0, hTO⟩, h1, h2⟩ := st
    obtain ⟨xs, ys, x, y, hqx, hqy, hx, hy⟩ := hg
    obtain ⟨its, rv, p, _⟩ := sqB_get I hqx
    obtain ⟨its2, rv2, p2, _⟩ := sqB_get I hqy
    obtain ⟨u, hu, ru⟩ := rv.get hx
    obtain ⟨u2, hu2, ru2⟩ := rv2.get hy
    have hh : X.A.in1.handled = none := I.ok.hd hc
    have n1 : i < its.toArray.size := by rw [List.size_toArray]; exact (List.getElem?_eq_some_iff.mp hu).1
    have n2 : i < its2.toArray.size := by rw [List.size_toArray]; exact (List.getElem?_eq_some_iff.mp hu2).1
    refine wpAny_pyNext_zipD2_item S (draws_B hh k1 i1 a ha its.toArray) (draws_B hh k2 i2 b hb its2.toArray) hz hTI hTO ⟨h1, p⟩ ⟨h2, p2⟩ n1 n2 fun x1 x2 h' tk y1 y2 z' TO' st1 st2 hT hsz hk => ?_
    have ex1 : x1 = u := by
      rw [show its.toArray[i]? = some u by simpa using hu] at y1
      exact (Option.some.inj y1).symm
    have ex2 : x2 = u2 := by
      rw [show its2.toArray[i]? = some u2 by simpa using hu2] at y2
      exact (Option.some.inj y2).symm
    subst ex1 ex2
    refine ⟨_, rfl, wpAny_letOwnedTupleGo_zip (s := { s with heap := h', toks := tk }) z' fun h'' z'' sb => ?_⟩
    have lt : ∀ {c o}, s.heap.get? c = some o → s.heap.objs.size ≠ c := fun e => Nat.ne_of_gt (Heap.lt_size e)
    have hT2 : h''.get? s.heap.objs.size = some { cls := .type "tuple", data := .seq #[x1, x2] } := (sb.2 _ (lt hz)).trans hT
    have new : ObjOk X.prog X.w (upd H s.heap.objs.size (.tup [x, y])) h'' s.heap.objs.size (.tup [x, y]) :=
      ⟨by show 2 ≤ sizeLine; decide, [x1, x2], .cons ru (.cons ru2 .nil), ⟨_, hT2, rfl, _, rfl⟩⟩
    have old : ∀ c o, c ∉ [z, TI, TO, i1, i2] → s.heap.get? c = some o → h''.get? c = some o := fun c o hb q => by
      simp only [List.mem_cons, List.not_mem_nil, or_false, not_or] at hb
      exact (sb.2 c hb.1).trans (hk c o hb.1 hb.2.2.1 hb.2.2.2.1 hb.2.2.2.2 q)
    refine ⟨.ref s.heap.objs.size, _, I.turnedNew (t' := tk) (ch := [z, TI, TO, i1, i2]) old hf (Nat.le_refl _) new, rfl, ⟨_, x, y, rfl, I.hok.fresh (Nat.le_refl _), rfl, fun l hl => by rw [sqB_inj I hl hqx]; exact hx, fun l hl => by rw [sqB_inj I hl hqy]; exact hy⟩, ⟨z'', ?_, ⟨x1, x2, ?_⟩, ?_, ?_⟩, fun c hcm => ?_⟩
    · exact (sb.2 _ S.TIz).trans (hk _ _ S.TIz S.TITO S.TIi1 S.TIi2 hTI)
    · exact (sb.2 _ S.TOz).trans TO'
    · exact st1.1.at fun o q => (sb.2 _ S.zi1.symm).trans q
    · exact st2.1.at fun o q => (sb.2 _ S.zi2.symm).trans q
    · have hn : s.heap.objs.size ≠ c := by
        have e' : c = z ∨ c = TI ∨ c = TO ∨ c = i1 ∨ c = i2 := by simpa using hcm
        rcases e' with rfl | rfl | rfl | rfl | rfl
        · exact lt hz
        · exact lt hTI
        · exact lt hTO
        · obtain ⟨_, e1, _⟩ := h1.obj; exact lt e1
        · obtain ⟨_, e2, _⟩ := h2.obj; exact lt e2
      rw [upd_ne hn.symm]
      exact (hf c hcm).1
  done := by
    intro X hP hw hK hc i pins s σ H E I hf st hg
    subst hP hw hK
    obtain ⟨hz, hTI, ⟨x0, y0, hTO⟩, h1, h2⟩ := st
    obtain ⟨xs, ys, hqx, hqy, hend⟩ := hg
    obtain ⟨its, rv, p, _⟩ := sqB_get I hqx
    obtain ⟨its2, rv2, p2, _⟩ := sqB_get I hqy
    have l1 := rv.length
    have l2 := rv2.length
    have hh : X.A.in1.handled = none := I.ok.hd hc
    refine wpAny_pyNext_zipD2_end S (draws_B hh k1 i1 a ha its.toArray) (draws_B hh k2 i2 b hb its2.toArray) hz hTI hTO ⟨h1, p⟩ ⟨h2, p2⟩ (by rw [List.size_toArray]; omega) (by rw [List.size_toArray]; omega) (by rw [List.size_toArray, List.size_toArray]; omega) fun h' tk hk => ⟨rfl, I.turnedL (t' := tk) (ch := [z, TI, TO, i1, i2]) (fun c o hb q => ?_) hf⟩
    simp only [List.mem_cons, List.not_mem_nil, or_false, not_or] at hb
    exact hk c o hb.1 hb.2.2.1 hb.2.2.2.1 hb.2.2.2.2 q
  self := fun A i s Q E st h => wpAny_pyIter_zip st.1 h
def iZipM (K : PySem.W.Frag) (ta : TA) : TI := fun σ H R => ta σ H fun vs H1 => ∃ k1 k2 a b xs ys, vs = [.ref a, .ref b] ∧ SqB K H1 k1 a xs ∧ SqB K H1 k2 b ys ∧ R (ItzM K k1 k2 a b) H1
theorem not2 {x y z : Nat} (h1 : x ≠ y) (h2 : x ≠ z) : x ∉ [y, z] := by
  simp only [List.mem_cons, List.not_mem_nil, or_false, not_or]
  exact ⟨h1, h2⟩
theorem sep_nat {n a b : Nat} (la : a < n) (lb : b < n) : ZipSep2 (n + 4) (n + 2) (n + 3) n (n + 1) [n, a] [n + 1, b] :=
  ⟨(show (n + 2 : Nat) ≠ n + 4 by omega), (show (n + 3 : Nat) ≠ n + 4 by omega), (show (n + 2 : Nat) ≠ n + 3 by omega), (show (n + 2 : Nat) ≠ n by omega), by simp, not2 (by omega) (by omega), not2 (by omega) (by omega), (show (n + 2 : Nat) ≠ n + 1 by omega), by simp, not2 (by omega) (by omega), not2 (by omega) (by omega), not2 (by omega) (by omega), not2 (by omega) (by omega)⟩
theorem pi_zipM {X : Cx} {e e2 : Expr} {ta : TA} {p pos tpos : Pos} {elts : List Expr} {kk : Nat} (hg : Gl X "zip") (hm : X.mg "zip" = none) (ha : PA X [e, e2] ta)
    (hs : starEach [e, e2] X.env = (false, eval e X.env) :: starEach [e2] X.env := by rfl) (hpl : (backTo pos (starEach [e2] X.env)).any (·.1) = false := by rfl) :
    PI X (.Tuple elts kk tpos) (.Call (.Name "zip" p) [e, e2] [] pos) (iZipM X.K ta) := by
  refine ⟨fun pins s σ H R I h => ?_⟩
  refine PyProof.Rows.Call_ (ld_blt I hg hm PyProof.Rows.boot_zip (PyProof.Rows.callWith_type1 (thn (ha.run pos pins s σ H _ I h) fun us s1 ⟨vs, H1, I1, r1, q1⟩ => ?_) hs hpl))
  obtain ⟨k1, k2, a, b, xs, ys, rfl, hqx, hqy, q⟩ := q1
  obtain ⟨u1, u2, rfl, ru1, ru2⟩ := r1.two
  cases ru1
  cases ru2
  obtain ⟨its, rv, p1, _⟩ := sqB_get I1 hqx
  obtain ⟨its2, rv2, p2, _⟩ := sqB_get I1 hqy
  obtain ⟨o1, ho1⟩ := p1.lt
  obtain ⟨o2, ho2⟩ := p2.lt
  have la : a < s1.heap.objs.size := Heap.lt_size ho1
  have lb : b < s1.heap.objs.size := Heap.lt_size ho2
  generalize hn : s1.heap.objs.size = n at *
  have fresh5 : ∀ c, c ∈ [n + 4, n + 2, n + 3, n, n + 1] → FpOk X pins H1 c := fun c hcm => by
    have hle : s1.heap.objs.size ≤ c := by
      rw [hn]
      simp only [List.mem_cons, List.not_mem_nil, or_false] at hcm
      omega
    exact I1.fpOk hle (I1.hok.fresh hle)
  refine zip_begins2 (begins_B k1 a its.toArray) (begins_B k2 b its2.toArray) p1 p2 fun h' hz hTI hTO h1 h2 hsz hk => ?_
  rw [hn] at hz hTI hTO h1 h2
  rw [hn]
  refine wpAny_pyIter_zip hz ?_
  have I2 : Inv X pins σ H1 { s1 with heap := h' } := I1.kept (t' := s1.toks) hk
  have S : ZipSep2 (n + 4) (n + 2) (n + 3) n (n + 1) [n, a] [n + 1, b] := sep_nat la lb
  exact ⟨n + 4, [n + 4, n + 2, n + 3, n, n + 1], _, _, H1, rfl, I2, turn_zipM S (Nat.ne_of_lt la) (Nat.ne_of_lt (Nat.lt_succ_of_lt lb)), ⟨hz, hTI, ⟨_, _, hTO⟩, obB_it h1, obB_it h2⟩, fresh5, q⟩
def SqF (K : PySem.W.Frag) (F : Hp) (k : Bool) (a : Addr) (vs : List V) : Prop := match k with
  | true => SqT K F a vs
  | false => F a = some (.lst vs)
theorem SqF.b {K : PySem.W.Frag} {F F' H' : Hp} {k : Bool} {a : Addr} {vs : List V} (h : SqF K F k a vs) (s1 : Same F F') (s2 : Same F' H') : SqB K H' k a vs := by
  cases k
  · exact SqL.of (s2 _ _ (s1 _ _ (show F a = some (.lst vs) from h)))
  · exact SqT.up s2 (SqT.up s1 (show SqT K F a vs from h))
theorem walks_zipM {K : PySem.W.Frag} {F : Hp} {k1 k2 : Bool} {a b : Addr} {vs ws : List V} {ds es : List PyData} (h : SqF K F k1 a vs) (r : RepL K F vs ds) (h2 : SqF K F k2 b ws) (r2 : RepL K F ws es) : Walks K (ItzM K k1 k2 a b) (zipped ds es) F where
  go := fun F' H' i s1 s2 hi => by
    rw [zipped_length, ← r.length, ← r2.length] at hi
    have q1 : i < vs.length := by omega
    have q2 : i < ws.length := by omega
    exact ⟨vs, ws, vs[i], ws[i], h.b s1 s2, h2.b s1 s2, by simp [q1], by simp [q2]⟩
  yl := fun F' H' i v H2 s1 s2 hi y => by
    obtain ⟨T, x, z, rfl, hT, rfl, y1, y2⟩ := y
    obtain ⟨d, hd, rd⟩ := r.get (y1 vs (h.b s1 s2))
    obtain ⟨d2, hd2, rd2⟩ := r2.get (y2 ws (h2.b s1 s2))
    exact ⟨_, _, by simp [zipped, List.getElem?_zipWith, hd, hd2], New.tup s2 hT (repL_two (Rep.up s1 _ _ rd) (Rep.up s1 _ _ rd2))⟩
  st := fun F' H' s1 s2 => ⟨vs, ws, h.b s1 s2, h2.b s1 s2, by rw [zipped_length, ← r.length, ← r2.length]⟩
def seqZ : PyData → Option (List PyData)
  | .list ds => some ds
  | .tuple ds => some ds
  | _ => none
def zipM (x y : PyData) : Option (List PyData) := match seqZ x, seqZ y with
  | some ds, some es => some (zipped ds es)
  | _, _ => none
/-- zip of two lists or tuples -/
def mZipM : List EV → M (List PyData)
  | [.d x, .d y] => fun env g => match zipM x y with
    | some ds => .ok ds env g
    | none => .bad
  | _ => M.bad
theorem seq_rep {K : PySem.W.Frag} {F : Hp} {v : V} {x : PyData} {ds : List PyData} (h : Rep K F v x) (e : seqZ x = some ds) : ∃ k a vs, v = .ref a ∧ SqF K F k a vs ∧ RepL K F vs ds := by
  cases x <;> first | (cases e; done) | skip
  · cases e
    obtain ⟨a, vs, rfl, q, r⟩ := rep_list.mp h
    exact ⟨false, a, vs, rfl, q, r⟩
  · cases e
    obtain ⟨a, vs, rfl, q, r⟩ := rep_tupS h
    exact ⟨true, a, vs, rfl, q, r⟩
section
variable {X : Cx} {C : DCx} {pos : Pos}
theorem di_zipM {a b : Expr} {p tpos : Pos} {elts : List Expr} {kk : Nat} {m : M (List EV)} (hg : Gl X "zip") (hm : X.mg "zip" = none) (h : DA X C [a, b] m) (hs : starEach [a, b] X.env = (false, eval a X.env) :: starEach [b] X.env := by rfl) (hpl : (backTo pos (starEach [b] X.env)).any (·.1) = false := by rfl) :
    DI X C (.Tuple elts kk tpos) (.Call (.Name "zip" p) [a, b] [] pos) (m.bind mZipM) := by
  refine ⟨fun hK => ?_⟩
  obtain ⟨t, h1, s1⟩ := h.run hK
  refine ⟨_, pi_zipM hg hm h1 hs hpl, fun σ F H l env g R Rl w => ?_⟩
  refine s1 σ F H l env g _ Rl (Wp.mono (Wp.bind.mp w) (fun evs env1 g1 w vs F1 H1 l1 R1 x1 r1 => ?_) fun _ _ _ _ w => w)
  unfold mZipM at w
  split at w
  · rename_i x y
    split at w
    · rename_i zs hz
      unfold zipM at hz
      split at hz
      · rename_i ds es e1 e2
        cases hz
        cases r1 with
        | cons r rr =>
          cases rr with
          | cons r' rr =>
            cases rr
            obtain ⟨k1, a, vs, rfl, q, r⟩ := seq_rep (show Rep C.K F1 _ x from r.1) e1
            obtain ⟨k2, b, ws, rfl, q', r'⟩ := seq_rep (show Rep C.K F1 _ y from r'.1) e2
            exact ⟨k1, k2, a, b, vs, ws, rfl, by rw [← hK]; exact q.b (.refl _) R1.sub, by rw [← hK]; exact q'.b (.refl _) R1.sub, by rw [← hK]; exact w _ F1 H1 l1 R1 x1 (walks_zipM q r q' r')⟩
      · cases hz
    · exact w.elim
  · exact w.elim
end
def sZipM (a b : S PyData) : S (List PyData) := a >>= fun x => b >>= fun y => S.opt (zipM x y)
theorem ti_zipM {t t1 t2 : List SS} {ma mb : M EV} {a b : S PyData} (ha : T HD t ma a t1) (hb : T HD t1 mb b t2) : T EQ t (M.bind (mCons ma (mCons mb mNil)) mZipM) (sZipM a b) t2 := by
  intro e g z g' f q
  obtain ⟨x, g1, q1, q⟩ := S.inv q
  obtain ⟨u, e1, h1, f1, k1, r1⟩ := ha e g x _ f q1
  obtain ⟨y, g2, q2, q⟩ := S.inv q
  obtain ⟨v, e2, h2, f2, k2, r2⟩ := hb e1 _ y _ f1 q2
  obtain ⟨q9, rfl⟩ := S.invO q
  cases r1
  cases r2
  refine ⟨z, e2, ?_, f2, k1.trans k2, rfl⟩
  rw [bind_eq (show mCons ma (mCons mb mNil) e g = .ok [.d x, .d y] e2 g2 by unfold mCons; rw [bind_eq h1]; rw [bind_eq (show M.bind mb _ e1 _ = _ from by rw [bind_eq h2]; rfl)]; rfl)]
  unfold mZipM
  simp only [q9]
end DL
namespace LGk30
open PySem L2 DL
def topS (i : Nat) : Stmt := PySem.Challenge.pw_littleorders_k30_whole_tables_told_back.main.body.getD i (.Pass ⟨0, 0, 0, 0⟩)
abbrev s_orders_of : Stmt := topS 5
abbrev N_orders_of : List Str := ["n", "found", "turn", "late", "row", "height"]
theorem sc_orders_of : FnScope N_orders_of ["n"] (defScope s_orders_of) := ⟨rfl, rfl, rfl, by decide +kernel, rfl, by decide +kernel, by decide +kernel⟩
abbrev s_is_whole : Stmt := topS 6
abbrev N_is_whole : List Str := ["value"]
theorem sc_is_whole : FnScope N_is_whole ["value"] (defScope s_is_whole) := ⟨rfl, rfl, rfl, by decide +kernel, rfl, by decide +kernel, by decide +kernel⟩
abbrev s_is_order : Stmt := topS 7
abbrev N_is_order : List Str := ["value", "height"]
theorem sc_is_order : FnScope N_is_order ["value"] (defScope s_is_order) := ⟨rfl, rfl, rfl, by decide +kernel, rfl, by decide +kernel, by decide +kernel⟩
abbrev s_order_at : Stmt := topS 8
abbrev N_order_at : List Str := ["order", "places", "heights", "place", "low", "height"]
theorem sc_order_at : FnScope N_order_at ["order", "places"] (defScope s_order_at) := ⟨rfl, rfl, rfl, by decide +kernel, rfl, by decide +kernel, by decide +kernel⟩
abbrev s_choices_of : Stmt := topS 10
abbrev N_choices_of : List Str := ["things", "k", "found", "turn", "late", "some", "begin", "i"]
theorem sc_choices_of : FnScope N_choices_of ["things", "k"] (defScope s_choices_of) := ⟨rfl, rfl, rfl, by decide +kernel, rfl, by decide +kernel, by decide +kernel⟩
abbrev s_copies_of : Stmt := topS 11
abbrev N_copies_of : List Str := ["p", "s", "places"]
theorem sc_copies_of : FnScope N_copies_of ["p", "s"] (defScope s_copies_of) := ⟨rfl, rfl, rfl, by decide +kernel, rfl, by decide +kernel, by decide +kernel⟩
abbrev s_count_of : Stmt := topS 12
abbrev N_count_of : List Str := ["p", "s"]
theorem sc_count_of : FnScope N_count_of ["p", "s"] (defScope s_count_of) := ⟨rfl, rfl, rfl, by decide +kernel, rfl, by decide +kernel, by decide +kernel⟩
abbrev s_little_orders : Stmt := topS 13
abbrev N_little_orders : List Str := ["k", "found", "n"]
theorem sc_little_orders : FnScope N_little_orders ["k"] (defScope s_little_orders) := ⟨rfl, rfl, rfl, by decide +kernel, rfl, by decide +kernel, by decide +kernel⟩
abbrev s_is_number : Stmt := topS 16
abbrev N_is_number : List Str := ["value"]
theorem sc_is_number : FnScope N_is_number ["value"] (defScope s_is_number) := ⟨rfl, rfl, rfl, by decide +kernel, rfl, by decide +kernel, by decide +kernel⟩
abbrev s_is_pair : Stmt := topS 17
abbrev N_is_pair : List Str := ["value"]
theorem sc_is_pair : FnScope N_is_pair ["value"] (defScope s_is_pair) := ⟨rfl, rfl, rfl, by decide +kernel, rfl, by decide +kernel, by decide +kernel⟩
abbrev s_is_form : Stmt := topS 18
abbrev N_is_form : List Str := ["value", "pair", "one", "late"]
theorem sc_is_form : FnScope N_is_form ["value"] (defScope s_is_form) := ⟨rfl, rfl, rfl, by decide +kernel, rfl, by decide +kernel, by decide +kernel⟩
abbrev s_form_of_pairs : Stmt := topS 19
abbrev N_form_of_pairs : List Str := ["pairs", "found", "p", "c"]
theorem sc_form_of_pairs : FnScope N_form_of_pairs ["pairs"] (defScope s_form_of_pairs) := ⟨rfl, rfl, rfl, by decide +kernel, rfl, by decide +kernel, by decide +kernel⟩
abbrev s_form_sum : Stmt := topS 20
abbrev N_form_sum : List Str := ["a", "b"]
theorem sc_form_sum : FnScope N_form_sum ["a", "b"] (defScope s_form_sum) := ⟨rfl, rfl, rfl, by decide +kernel, rfl, by decide +kernel, by decide +kernel⟩
abbrev s_form_size : Stmt := topS 21
abbrev N_form_size : List Str := ["form", "p", "c"]
theorem sc_form_size : FnScope N_form_size ["form"] (defScope s_form_size) := ⟨rfl, rfl, rfl, by decide +kernel, rfl, by decide +kernel, by decide +kernel⟩
abbrev s_form_worth : Stmt := topS 22
abbrev N_form_worth : List Str := ["form", "s", "p", "c"]
theorem sc_form_worth : FnScope N_form_worth ["form", "s"] (defScope s_form_worth) := ⟨rfl, rfl, rfl, by decide +kernel, rfl, by decide +kernel, by decide +kernel⟩
abbrev s_table_of : Stmt := topS 24
abbrev N_table_of : List Str := ["form", "k", "order"]
theorem sc_table_of : FnScope N_table_of ["form", "k"] (defScope s_table_of) := ⟨rfl, rfl, rfl, by decide +kernel, rfl, by decide +kernel, by decide +kernel⟩
abbrev s_form_of_table : Stmt := topS 25
abbrev N_form_of_table : List Str := ["k", "numbers", "found", "order", "number"]
theorem sc_form_of_table : FnScope N_form_of_table ["k", "numbers"] (defScope s_form_of_table) := ⟨rfl, rfl, rfl, by decide +kernel, rfl, by decide +kernel, by decide +kernel⟩
abbrev s__law_open_cells : Stmt := topS 27
abbrev N__law_open_cells : List Str := ["script", "stirred", "cell", "cells"]
theorem sc__law_open_cells : FnScope N__law_open_cells ["script"] (defScope s__law_open_cells) := ⟨rfl, rfl, rfl, by decide +kernel, rfl, by decide +kernel, by decide +kernel⟩
abbrev s__law_pick : Stmt := topS 28
abbrev N__law_pick : List Str := ["source", "most", "cells", "others", "lap", "stirred"]
theorem sc__law_pick : FnScope N__law_pick ["source", "most"] (defScope s__law_pick) := ⟨rfl, rfl, rfl, by decide +kernel, rfl, by decide +kernel, by decide +kernel⟩
abbrev s__law_of : Stmt := topS 29
abbrev N__law_of : List Str := ["source", "some"]
theorem sc__law_of : FnScope N__law_of ["source", "some"] (defScope s__law_of) := ⟨rfl, rfl, rfl, by decide +kernel, rfl, by decide +kernel, by decide +kernel⟩
abbrev s__law_orders : Stmt := topS 30
abbrev N__law_orders : List Str := ["n", "found", "turn", "late", "row", "height"]
theorem sc__law_orders : FnScope N__law_orders ["n"] (defScope s__law_orders) := ⟨rfl, rfl, rfl, by decide +kernel, rfl, by decide +kernel, by decide +kernel⟩
abbrev s__law_little : Stmt := topS 31
abbrev N__law_little : List Str := ["k", "found", "n"]
theorem sc__law_little : FnScope N__law_little ["k"] (defScope s__law_little) := ⟨rfl, rfl, rfl, by decide +kernel, rfl, by decide +kernel, by decide +kernel⟩
abbrev s__law_chosen : Stmt := topS 32
abbrev N__law_chosen : List Str := ["n", "k", "found", "turn", "late", "row", "place"]
theorem sc__law_chosen : FnScope N__law_chosen ["n", "k"] (defScope s__law_chosen) := ⟨rfl, rfl, rfl, by decide +kernel, rfl, by decide +kernel, by decide +kernel⟩
abbrev s__law_order_at : Stmt := topS 33
abbrev N__law_order_at : List Str := ["order", "places", "heights", "place", "other", "height"]
theorem sc__law_order_at : FnScope N__law_order_at ["order", "places"] (defScope s__law_order_at) := ⟨rfl, rfl, rfl, by decide +kernel, rfl, by decide +kernel, by decide +kernel⟩
abbrev s__law_count : Stmt := topS 34
abbrev N__law_count : List Str := ["p", "s", "places"]
theorem sc__law_count : FnScope N__law_count ["p", "s"] (defScope s__law_count) := ⟨rfl, rfl, rfl, by decide +kernel, rfl, by decide +kernel, by decide +kernel⟩
abbrev s__law_form_worth : Stmt := topS 35
abbrev N__law_form_worth : List Str := ["form", "s", "p", "c"]
theorem sc__law_form_worth : FnScope N__law_form_worth ["form", "s"] (defScope s__law_form_worth) := ⟨rfl, rfl, rfl, by decide +kernel, rfl, by decide +kernel, by decide +kernel⟩
abbrev s__law_put : Stmt := topS 36
abbrev N__law_put : List Str := ["pairs", "found", "p", "c"]
theorem sc__law_put : FnScope N__law_put ["pairs"] (defScope s__law_put) := ⟨rfl, rfl, rfl, by decide +kernel, rfl, by decide +kernel, by decide +kernel⟩
abbrev s__law_form : Stmt := topS 37
abbrev N__law_form : List Str := ["source", "k", "most", "every", "pairs", "turn"]
theorem sc__law_form : FnScope N__law_form ["source", "k", "most"] (defScope s__law_form) := ⟨rfl, rfl, rfl, by decide +kernel, rfl, by decide +kernel, by decide +kernel⟩
abbrev s__law_told : Stmt := topS 38
abbrev N__law_told : List Str := ["every", "numbers", "found", "s", "number", "p", "c"]
theorem sc__law_told : FnScope N__law_told ["every", "numbers"] (defScope s__law_told) := ⟨rfl, rfl, rfl, by decide +kernel, rfl, by decide +kernel, by decide +kernel⟩
abbrev s_law : Stmt := topS 39
abbrev N_law : List Str := ["script", "source", "lap", "k", "every", "numbers", "s", "due", "kept", "told", "number", "form", "table", "both", "x", "y", "p", "line", "ahead", "n"]
theorem sc_law : FnScope N_law ["script"] (defScope s_law) := ⟨rfl, rfl, rfl, by decide +kernel, rfl, by decide +kernel, by decide +kernel⟩
def cp_orders_of_1 : M EV :=
  mComp (.nm 5) [5] (M.bind (mCons (mVarB 0) mNil) mRange1) (M.bind (mBin (pyIn true) (mVarB 5) (mVarB 4)) mBool) (M.bind (mDisp (fun ds => .d (.tuple ds)) (mStar (mVarB 4) (mCons (mArg (mVar 5)) mNil))) mFrz)
def lb_orders_of_1 : M Fl :=
  (mDrop (mOn 3 (mExtend 3 cp_orders_of_1)))
def lp_orders_of_1 : M Fl :=
  mFor (.nm 4) (M.bind (M.bind (mVar 1) mFrz) mItems) lb_orders_of_1
def lb_orders_of_2 : M Fl :=
  (mSeqS (mSet 3 (mDisp (fun ds => .fr (.list ds)) mNil))
    (mSeqS lp_orders_of_1
    (mSet 1 (mArg (mCallB pyListOf (mCons (mVarB 3) mNil))))))
def lp_orders_of_2 : M Fl :=
  mFor (.nm 2) (M.bind (mCons (mVarB 0) mNil) mRange1) lb_orders_of_2
def bd_orders_of : M Fl :=
  (mSeqS (mIfS (M.bind (mBin pyGt (mVarB 0) (mK (.int 6))) mBool) M.bad mNx)
    (mSeqS (mSet 1 (mArg (mDisp (fun ds => .fr (.list ds)) (mCons (mArg (mDisp (fun ds => .d (.tuple ds)) mNil)) mNil))))
    (mSeqS lp_orders_of_2
    (mRet (mCallB pyTupOf (mCons (mVarB 1) mNil))))))
def fm_orders_of : FM := bodyRun 6 bd_orders_of
def bd_is_whole : M Fl :=
  (mRet (mAndV (mIsi "int" (mVarB 0)) (mNotV (mIsi "bool" (mVarB 0)))))
def fm_is_whole : FM := bodyRun 1 bd_is_whole
def rg_is_order_1 : M EV :=
  mRgL (fun ds => .fr (.list ds)) (mRg1 (M.bind (mCallB pyLen (mCons (mVarB 0) mNil)) mFrz))
def cp_is_order_1 : M EV :=
  mComp (.nm 1) [1] (M.bind (M.bind (mVar 0) mFrz) mItems) mYes (M.bind (mCall 1 fm_is_whole (mCons (mArg (mVar 1)) mNil)) mFrz)
def bd_is_order : M Fl :=
  (mSeqS (mIfS (mOrT (mNotT (M.bind (mIsi "tuple" (mVarB 0)) mBool)) (mNotT (M.bind (mCallB pyAll (mCons cp_is_order_1 mNil)) mBool))) (mRet (mK (.bool false))) mNx)
    (mRet (mBin pyEq (mCallB pySorted (mCons (mVarB 0) mNil)) rg_is_order_1)))
def fm_is_order : FM := bodyRun 2 bd_is_order
def cp_order_at_1 : M EV :=
  mComp (.nm 5) [5] (M.bind (M.bind (mVar 2) mFrz) mItems) mYes (M.bind (mIdx (mVarB 4) (mVarB 5)) mFrz)
def cp_order_at_2 : M EV :=
  mComp (.nm 3) [3] (M.bind (M.bind (mVar 1) mFrz) mItems) mYes (M.bind (mBin pyIx (mVarB 0) (mVarB 3)) mFrz)
def bd_order_at : M Fl :=
  (mSeqS (mSet 2 (mArg cp_order_at_2))
    (mSeqS (mSet 4 (mArg (mCallB pySorted (mCons (mVarB 2) mNil))))
    (mRet (mCallB pyTupOf (mCons cp_order_at_1 mNil)))))
def fm_order_at : FM := bodyRun 6 bd_order_at
def cp_choices_of_1 : M EV :=
  mComp (.tp [(.nm 5), (.nm 6)]) [5, 6] (M.bind (M.bind (mVar 2) mFrz) mItems) mYes (M.bind (mVar 5) mFrz)
def cp_choices_of_2 : M EV :=
  mComp (.nm 7) [7] (M.bind (mCons (mVarB 6) (mCons (mCallB pyLen (mCons (mVarB 0) mNil)) mNil)) mRange2) mYes (M.bind (mDisp (fun ds => .d (.tuple ds)) (mCons (mArg (mDisp (fun ds => .d (.tuple ds)) (mStar (mVarB 5) (mCons (mArg (mBin pyIx (mVarB 0) (mVarB 7))) mNil)))) (mCons (mArg (mBin pyAdd (mVarB 7) (mK (.int 1)))) mNil))) mFrz)
def lb_choices_of_1 : M Fl :=
  (mDrop (mOn 4 (mExtend 4 cp_choices_of_2)))
def lp_choices_of_1 : M Fl :=
  mFor (.tp [(.nm 5), (.nm 6)]) (M.bind (M.bind (mVar 2) mFrz) mItems) lb_choices_of_1
def lb_choices_of_2 : M Fl :=
  (mSeqS (mSet 4 (mDisp (fun ds => .fr (.list ds)) mNil))
    (mSeqS lp_choices_of_1
    (mSet 2 (mArg (mCallB pyListOf (mCons (mVarB 4) mNil))))))
def lp_choices_of_2 : M Fl :=
  mFor (.nm 3) (M.bind (mCons (mVarB 1) mNil) mRange1) lb_choices_of_2
def bd_choices_of : M Fl :=
  (mSeqS (mSet 2 (mArg (mDisp (fun ds => .fr (.list ds)) (mCons (mArg (mDisp (fun ds => .d (.tuple ds)) (mCons (mArg (mDisp (fun ds => .d (.tuple ds)) mNil)) (mCons (mArg (mK (.int 0))) mNil)))) mNil))))
    (mSeqS lp_choices_of_2
    (mRet cp_choices_of_1)))
def fm_choices_of : FM := bodyRun 8 bd_choices_of
def rg_copies_of_1 : M EV :=
  mRgL (fun ds => .fr (.list ds)) (mRg1 (M.bind (mCallB pyLen (mCons (mVarB 1) mNil)) mFrz))
def cp_copies_of_1 : M EV :=
  mComp (.nm 2) [2] (M.bind (M.bind (mCall 2 fm_choices_of (mCons (mArg rg_copies_of_1) (mCons (mArg (mCallB pyLen (mCons (mVarB 0) mNil))) mNil))) mFrz) mItems) (M.bind (mBin pyEq (mCall 2 fm_order_at (mCons (mArg (mVar 1)) (mCons (mArg (mVar 2)) mNil))) (mVarB 0)) mBool) (M.bind (mVar 2) mFrz)
def bd_copies_of : M Fl :=
  (mRet (mCallB pyTupOf (mCons cp_copies_of_1 mNil)))
def fm_copies_of : FM := bodyRun 3 bd_copies_of
def bd_count_of : M Fl :=
  (mRet (mCallB pyLen (mCons (mCall 2 fm_copies_of (mCons (mArg (mVar 0)) (mCons (mArg (mVar 1)) mNil))) mNil)))
def fm_count_of : FM := bodyRun 2 bd_count_of
def lb_little_orders_1 : M Fl :=
  (mDrop (mOn 1 (mExtendA 1 (mCall 1 fm_orders_of (mCons (mArg (mVar 2)) mNil)))))
def lp_little_orders_1 : M Fl :=
  mFor (.nm 2) (M.bind (mCons (mBin pyAdd (mVarB 0) (mK (.int 1))) mNil) mRange1) lb_little_orders_1
def bd_little_orders : M Fl :=
  (mSeqS (mSet 1 (mDisp (fun ds => .fr (.list ds)) mNil))
    (mSeqS lp_little_orders_1
    (mRet (mCallB pyTupOf (mCons (mVarB 1) mNil)))))
def fm_little_orders : FM := bodyRun 3 bd_little_orders
def bd_is_number : M Fl :=
  (mRet (mAndV (mIsi "int" (mVarB 0)) (mAndV (mNotV (mIsi "bool" (mVarB 0))) (mBin pyNe (mVarB 0) (mK (.int 0))))))
def fm_is_number : FM := bodyRun 1 bd_is_number
def bd_is_pair : M Fl :=
  (mSeqS (mIfS (mOrT (mNotT (M.bind (mIsi "tuple" (mVarB 0)) mBool)) (M.bind (mBin pyNe (mCallB pyLen (mCons (mVarB 0) mNil)) (mK (.int 2))) mBool)) (mRet (mK (.bool false))) mNx)
    (mRet (mAndV (mCall 1 fm_is_order (mCons (mArg (mBin pyIx (mVarB 0) (mK (.int 0)))) mNil)) (mAndV (mBin pyLe (mCallB pyLen (mCons (mBin pyIx (mVarB 0) (mK (.int 0))) mNil)) (mK (.int 6))) (mCall 1 fm_is_number (mCons (mArg (mBin pyIx (mVarB 0) (mK (.int 1)))) mNil))))))
def fm_is_pair : FM := bodyRun 1 bd_is_pair
def cp_is_form_1 : M EV :=
  mComp (.tp [(.nm 2), (.nm 3)]) [2, 3] (M.bind (mCons (mArg (mVar 0)) (mCons (mArg (mSl (mVarB 0) (M.bind (M.bind (mK (.int 1)) mFrz) mPart) (M.pure none))) mNil)) mZip) mYes (M.bind (mBin pyLt (mBin pyIx (mVarB 2) (mK (.int 0))) (mBin pyIx (mVarB 3) (mK (.int 0)))) mFrz)
def cp_is_form_2 : M EV :=
  mComp (.nm 1) [1] (M.bind (M.bind (mVar 0) mFrz) mItems) mYes (M.bind (mCall 1 fm_is_pair (mCons (mArg (mVar 1)) mNil)) mFrz)
def bd_is_form : M Fl :=
  (mSeqS (mIfS (mOrT (mNotT (M.bind (mIsi "tuple" (mVarB 0)) mBool)) (mNotT (M.bind (mCallB pyAll (mCons cp_is_form_2 mNil)) mBool))) (mRet (mK (.bool false))) mNx)
    (mRet (mCallB pyAll (mCons cp_is_form_1 mNil))))
def fm_is_form : FM := bodyRun 4 bd_is_form
def cp_form_of_pairs_1 : M EV :=
  mComp (.nm 2) [2] (M.bind (M.bind (mTSort 1) mFrz) mItems) (M.bind (mBin pyNe (mTGet 1 (M.bind (mVar 2) mFrz)) (mK (.int 0))) mBool) (M.bind (mDisp (fun ds => .d (.tuple ds)) (mCons (mArg (mVar 2)) (mCons (mArg (mTGet 1 (M.bind (mVar 2) mFrz))) mNil))) mFrz)
def lb_form_of_pairs_1 : M Fl :=
  (mTPut 1 (M.bind (mBin pyAdd (mTGet2 1 (M.bind (mVar 2) mFrz) (M.bind (mK (.int 0)) mFrz)) (mVarB 3)) mFrz) (M.bind (mVar 2) mFrz))
def lp_form_of_pairs_1 : M Fl :=
  mFor (.tp [(.nm 2), (.nm 3)]) (M.bind (M.bind (mVar 0) mFrz) mItems) lb_form_of_pairs_1
def bd_form_of_pairs : M Fl :=
  (mSeqS (mSet 1 mNewT)
    (mSeqS lp_form_of_pairs_1
    (mRet (mCallB pyTupOf (mCons cp_form_of_pairs_1 mNil)))))
def fm_form_of_pairs : FM := bodyRun 4 bd_form_of_pairs
def bd_form_sum : M Fl :=
  (mRet (mCall 1 fm_form_of_pairs (mCons (mArg (mDisp (fun ds => .fr (.list ds)) (mStar (mVarB 0) (mStar (mVarB 1) mNil)))) mNil)))
def fm_form_sum : FM := bodyRun 2 bd_form_sum
def cp_form_size_1 : M EV :=
  mComp (.tp [(.nm 1), (.nm 2)]) [1, 2] (M.bind (M.bind (mVar 0) mFrz) mItems) mYes (M.bind (mCallB pyLen (mCons (mVarB 1) mNil)) mFrz)
def bd_form_size : M Fl :=
  (mRet (mMaxDef cp_form_size_1 (mUn pyNeg (mK (.int 1)))))
def fm_form_size : FM := bodyRun 3 bd_form_size
def cp_form_worth_1 : M EV :=
  mComp (.tp [(.nm 2), (.nm 3)]) [2, 3] (M.bind (M.bind (mVar 0) mFrz) mItems) mYes (M.bind (mBin pyMul (mVarB 3) (mCall 2 fm_count_of (mCons (mArg (mVar 2)) (mCons (mArg (mVar 1)) mNil)))) mFrz)
def bd_form_worth : M Fl :=
  (mRet (mCallB pySum (mCons cp_form_worth_1 mNil)))
def fm_form_worth : FM := bodyRun 4 bd_form_worth
def cp_table_of_1 : M EV :=
  mComp (.nm 2) [2] (M.bind (M.bind (mCall 1 fm_little_orders (mCons (mArg (mVar 1)) mNil)) mFrz) mItems) mYes (M.bind (mCall 2 fm_form_worth (mCons (mArg (mVar 0)) (mCons (mArg (mVar 2)) mNil))) mFrz)
def bd_table_of : M Fl :=
  (mRet (mCallB pyTupOf (mCons cp_table_of_1 mNil)))
def fm_table_of : FM := bodyRun 3 bd_table_of
def lb_form_of_table_1 : M Fl :=
  (mDrop (mOn 2 (mAppend 2 (M.bind (mDisp (fun ds => .d (.tuple ds)) (mCons (mArg (mVar 3)) (mCons (mArg (mBin pySub (mVarB 4) (mCall 2 fm_form_worth (mCons (mArg (mThaw (mCall 1 fm_form_of_pairs (mCons (mArg (mVar 2)) mNil)))) (mCons (mArg (mVar 3)) mNil))))) mNil))) mFrz))))
def lp_form_of_table_1 : M Fl :=
  mFor (.tp [(.nm 3), (.nm 4)]) (M.bind (mCons (mArg (mCall 1 fm_little_orders (mCons (mArg (mVar 0)) mNil))) (mCons (mArg (mVar 1)) mNil)) mZipM) lb_form_of_table_1
def bd_form_of_table : M Fl :=
  (mSeqS (mSet 2 (mDisp (fun ds => .fr (.list ds)) mNil))
    (mSeqS lp_form_of_table_1
    (mRet (mCall 1 fm_form_of_pairs (mCons (mArg (mVar 2)) mNil)))))
def fm_form_of_table : FM := bodyRun 5 bd_form_of_table
def cp__law_open_cells_1 : M EV :=
  mComp (.nm 2) [2] (mScrItems (mVarB 0)) mYes (M.bind (mCallB pyAbs (mCons (mVarB 2) mNil)) mFrz)
def lb__law_open_cells_1 : M Fl :=
  (mSet 1 (mBin pyMod (mCallB pyInt (mCons (mBin pyAdd (mBin pyAdd (mBin pyMul (mVarB 1) (mK (.int 69069))) (mBin pyMul (mVarB 2) (mK (.int 31)))) (mK (.int 5))) mNil)) (mK (.int 2147483629))))
def lp__law_open_cells_1 : M Fl :=
  mFor (.nm 2) (mScrItems (mVarB 0)) lb__law_open_cells_1
def bd__law_open_cells : M Fl :=
  (mSeqS (mSet 1 (mK (.int 11)))
    (mSeqS lp__law_open_cells_1
    (mSeqS (mSet 3 (mArg cp__law_open_cells_1))
    (mRet (mSrcNew (mUn pyRev (mVarB 3)) (mK (.int 1)) (mVar 1) (mK (.int 0)))))))
def fm__law_open_cells : FM := bodyRun 4 bd__law_open_cells
@[irreducible] def fuel__law_pick : Nat := 1000000
def wh__law_pick_1 : M Fl :=
  whileD (mAndT (M.bind (mBin pyLt (mSrcGet "left" (mVarB 0)) (mK (.int 2))) mBool) (M.bind (mBin pyGt (mSrcLen (mVarB 2)) (mK (.int 0))) mBool)) (mSrcPut "left" (mSrcPop (mVarB 2)) (mVarB 0)) fuel__law_pick
def bd__law_pick : M Fl :=
  (mSeqS (mIfS (M.bind (mBin pyLt (mVarB 1) (mK (.int 2))) mBool) (mRet (mK (.int 0))) mNx)
    (mSeqS (mSet 2 (mSrcGet "cells" (mVarB 0)))
    (mSeqS wh__law_pick_1
    (mSeqS (mSet 3 (mSrcGet "left" (mVarB 0)))
    (mSeqS (mIfS (M.bind (mBin pyGt (mVarB 3) (mK (.int 1))) mBool) (mSeqS (mSrcPut "left" (mBin pyFloorDiv (mVarB 3) (mVarB 1)) (mVarB 0))
    (mRet (mBin pyMod (mCallB pyInt (mCons (mVarB 3) mNil)) (mVarB 1)))) mNx)
    (mSeqS (mSrcPut "turn" (mBin pyAdd (mSrcGet "turn" (mVarB 0)) (mK (.int 1))) (mVarB 0))
    (mSeqS (mSet 4 (mSrcGet "turn" (mVarB 0)))
    (mSeqS (mSet 5 (mBin pyMod (mCallB pyInt (mCons (mBin pyAdd (mSrcGet "mixed" (mVarB 0)) (mBin pyMul (mVarB 4) (mK (.int 104729)))) mNil)) (mK (.int 998244353))))
    (mSeqS (mSet 5 (mBin pyMod (mCallB pyInt (mCons (mBin pyAdd (mBin pyMul (mVarB 5) (mVarB 5)) (mBin pyMul (mVarB 4) (mK (.int 17)))) mNil)) (mK (.int 2147483647))))
    (mRet (mBin pyMod (mCallB pyInt (mCons (mBin pyFloorDiv (mVarB 5) (mK (.int 16))) mNil)) (mVarB 1))))))))))))
def fm__law_pick : FM := bodyRun 6 bd__law_pick
def bd__law_of : M Fl :=
  (mRet (mBin pyIx (mVarB 1) (mCall 2 fm__law_pick (mCons (mArg (mVar 0)) (mCons (mArg (mCallB pyLen (mCons (mVarB 1) mNil))) mNil)))))
def fm__law_of : FM := bodyRun 2 bd__law_of
def cp__law_orders_1 : M EV :=
  mComp (.nm 5) [5] (M.bind (mCons (mVarB 0) mNil) mRange1) (M.bind (mBin (pyIn true) (mVarB 5) (mVarB 4)) mBool) (M.bind (mBin pyAdd (mVarB 4) (mDisp (fun ds => .d (.tuple ds)) (mCons (mArg (mVar 5)) mNil))) mFrz)
def lb__law_orders_1 : M Fl :=
  (mDrop (mOn 3 (mExtend 3 cp__law_orders_1)))
def lp__law_orders_1 : M Fl :=
  mFor (.nm 4) (M.bind (M.bind (mVar 1) mFrz) mItems) lb__law_orders_1
def lb__law_orders_2 : M Fl :=
  (mSeqS (mSet 3 (mDisp (fun ds => .fr (.list ds)) mNil))
    (mSeqS lp__law_orders_1
    (mSet 1 (mArg (mCallB pyListOf (mCons (mVarB 3) mNil))))))
def lp__law_orders_2 : M Fl :=
  mFor (.nm 2) (M.bind (mCons (mVarB 0) mNil) mRange1) lb__law_orders_2
def bd__law_orders : M Fl :=
  (mSeqS (mSet 1 (mArg (mDisp (fun ds => .fr (.list ds)) (mCons (mArg (mDisp (fun ds => .d (.tuple ds)) mNil)) mNil))))
    (mSeqS lp__law_orders_2
    (mRetV 1)))
def fm__law_orders : FM := bodyRun 6 bd__law_orders
def lb__law_little_1 : M Fl :=
  (mDrop (mOn 1 (mExtendA 1 (mCall 1 fm__law_orders (mCons (mArg (mVar 2)) mNil)))))
def lp__law_little_1 : M Fl :=
  mFor (.nm 2) (M.bind (mCons (mBin pyAdd (mVarB 0) (mK (.int 1))) mNil) mRange1) lb__law_little_1
def bd__law_little : M Fl :=
  (mSeqS (mSet 1 (mDisp (fun ds => .fr (.list ds)) mNil))
    (mSeqS lp__law_little_1
    (mRetV 1)))
def fm__law_little : FM := bodyRun 3 bd__law_little
def cp__law_chosen_1 : M EV :=
  mComp (.nm 6) [6] (M.bind (mCons (mIf (M.bind (mBin pyNe (mVarB 5) (mDisp (fun ds => .d (.tuple ds)) mNil)) mBool) (mBin pyAdd (mBin pyIx (mVarB 5) (mUn pyNeg (mK (.int 1)))) (mK (.int 1))) (mK (.int 0))) (mCons (mVarB 0) mNil)) mRange2) mYes (M.bind (mBin pyAdd (mVarB 5) (mDisp (fun ds => .d (.tuple ds)) (mCons (mArg (mVar 6)) mNil))) mFrz)
def lb__law_chosen_1 : M Fl :=
  (mDrop (mOn 4 (mExtend 4 cp__law_chosen_1)))
def lp__law_chosen_1 : M Fl :=
  mFor (.nm 5) (M.bind (M.bind (mVar 2) mFrz) mItems) lb__law_chosen_1
def lb__law_chosen_2 : M Fl :=
  (mSeqS (mSet 4 (mDisp (fun ds => .fr (.list ds)) mNil))
    (mSeqS lp__law_chosen_1
    (mSet 2 (mArg (mCallB pyListOf (mCons (mVarB 4) mNil))))))
def lp__law_chosen_2 : M Fl :=
  mFor (.nm 3) (M.bind (mCons (mVarB 1) mNil) mRange1) lb__law_chosen_2
def bd__law_chosen : M Fl :=
  (mSeqS (mSet 2 (mArg (mDisp (fun ds => .fr (.list ds)) (mCons (mArg (mDisp (fun ds => .d (.tuple ds)) mNil)) mNil))))
    (mSeqS lp__law_chosen_2
    (mRetV 2)))
def fm__law_chosen : FM := bodyRun 7 bd__law_chosen
def cp__law_order_at_1 : M EV :=
  mComp (.nm 4) [4] (M.bind (M.bind (mVar 2) mFrz) mItems) (M.bind (mBin pyLt (mVarB 4) (mVarB 5)) mBool) (M.bind (mK (.int 1)) mFrz)
def cp__law_order_at_2 : M EV :=
  mComp (.nm 5) [5] (M.bind (M.bind (mVar 2) mFrz) mItems) mYes (M.bind (mCallB pyLen (mCons cp__law_order_at_1 mNil)) mFrz)
def cp__law_order_at_3 : M EV :=
  mComp (.nm 3) [3] (M.bind (M.bind (mVar 1) mFrz) mItems) mYes (M.bind (mBin pyIx (mVarB 0) (mVarB 3)) mFrz)
def bd__law_order_at : M Fl :=
  (mSeqS (mSet 2 (mArg cp__law_order_at_3))
    (mRet (mCallB pyTupOf (mCons cp__law_order_at_2 mNil))))
def fm__law_order_at : FM := bodyRun 6 bd__law_order_at
def cp__law_count_1 : M EV :=
  mComp (.nm 2) [2] (M.bind (M.bind (mCall 2 fm__law_chosen (mCons (mArg (mCallB pyLen (mCons (mVarB 1) mNil))) (mCons (mArg (mCallB pyLen (mCons (mVarB 0) mNil))) mNil))) mFrz) mItems) (M.bind (mBin pyEq (mCall 2 fm__law_order_at (mCons (mArg (mVar 1)) (mCons (mArg (mVar 2)) mNil))) (mVarB 0)) mBool) (M.bind (mK (.int 1)) mFrz)
def bd__law_count : M Fl :=
  (mRet (mCallB pyLen (mCons cp__law_count_1 mNil)))
def fm__law_count : FM := bodyRun 3 bd__law_count
def cp__law_form_worth_1 : M EV :=
  mComp (.tp [(.nm 2), (.nm 3)]) [2, 3] (M.bind (M.bind (mVar 0) mFrz) mItems) mYes (M.bind (mBin pyMul (mVarB 3) (mCall 2 fm__law_count (mCons (mArg (mVar 2)) (mCons (mArg (mVar 1)) mNil)))) mFrz)
def bd__law_form_worth : M Fl :=
  (mRet (mCallB pySum (mCons cp__law_form_worth_1 mNil)))
def fm__law_form_worth : FM := bodyRun 4 bd__law_form_worth
def cp__law_put_1 : M EV :=
  mComp (.nm 2) [2] (M.bind (M.bind (mTSort 1) mFrz) mItems) (M.bind (mBin pyNe (mTGet 1 (M.bind (mVar 2) mFrz)) (mK (.int 0))) mBool) (M.bind (mDisp (fun ds => .d (.tuple ds)) (mCons (mArg (mVar 2)) (mCons (mArg (mTGet 1 (M.bind (mVar 2) mFrz))) mNil))) mFrz)
def lb__law_put_1 : M Fl :=
  (mTPut 1 (M.bind (mBin pyAdd (mTGet2 1 (M.bind (mVar 2) mFrz) (M.bind (mK (.int 0)) mFrz)) (mVarB 3)) mFrz) (M.bind (mVar 2) mFrz))
def lp__law_put_1 : M Fl :=
  mFor (.tp [(.nm 2), (.nm 3)]) (M.bind (M.bind (mVar 0) mFrz) mItems) lb__law_put_1
def bd__law_put : M Fl :=
  (mSeqS (mSet 1 mNewT)
    (mSeqS lp__law_put_1
    (mRet (mCallB pyTupOf (mCons cp__law_put_1 mNil)))))
def fm__law_put : FM := bodyRun 4 bd__law_put
def lb__law_form_1 : M Fl :=
  (mDrop (mOn 4 (mAppend 4 (M.bind (mDisp (fun ds => .d (.tuple ds)) (mCons (mArg (mCall 2 fm__law_of (mCons (mArg (mVar 0)) (mCons (mArg (mVar 3)) mNil)))) (mCons (mArg (mCall 2 fm__law_of (mCons (mArg (mVar 0)) (mCons (mArg (mDisp (fun ds => .fr (.list ds)) (mCons (mArg (mK (.int 1))) (mCons (mArg (mK (.int 1))) (mCons (mArg (mK (.int 2))) (mCons (mArg (mUn pyNeg (mK (.int 1)))) (mCons (mArg (mUn pyNeg (mK (.int 3)))) (mCons (mArg (mK (.int 4))) (mCons (mArg (mK (.int 6))) (mCons (mArg (mBin pyPow (mK (.int 10)) (mK (.int 30)))) mNil)))))))))) mNil)))) mNil))) mFrz))))
def lp__law_form_1 : M Fl :=
  mFor (.nm 5) (M.bind (mCons (mCall 2 fm__law_pick (mCons (mArg (mVar 0)) (mCons (mArg (mBin pyAdd (mVarB 2) (mK (.int 1)))) mNil))) mNil) mRange1) lb__law_form_1
def bd__law_form : M Fl :=
  (mSeqS (mParF 3 4 (mArg (mCall 1 fm__law_little (mCons (mArg (mVar 1)) mNil))) (mDisp (fun ds => .fr (.list ds)) mNil))
    (mSeqS lp__law_form_1
    (mRet (mCall 1 fm__law_put (mCons (mArg (mVar 4)) mNil)))))
def fm__law_form : FM := bodyRun 6 bd__law_form
def cp__law_told_1 : M EV :=
  mComp (.tp [(.nm 5), (.nm 6)]) [5, 6] (M.bind (M.bind (mVar 2) mFrz) mItems) mYes (M.bind (mBin pyMul (mVarB 6) (mCall 2 fm__law_count (mCons (mArg (mVar 5)) (mCons (mArg (mVar 3)) mNil)))) mFrz)
def lb__law_told_1 : M Fl :=
  (mDrop (mOn 2 (mAppend 2 (M.bind (mDisp (fun ds => .d (.tuple ds)) (mCons (mArg (mVar 3)) (mCons (mArg (mBin pySub (mVarB 4) (mThaw (mCallB pySum (mCons cp__law_told_1 mNil))))) mNil))) mFrz))))
def lp__law_told_1 : M Fl :=
  mFor (.tp [(.nm 3), (.nm 4)]) (M.bind (mCons (mArg (mVar 0)) (mCons (mArg (mVar 1)) mNil)) mZipM) lb__law_told_1
def bd__law_told : M Fl :=
  (mSeqS (mSet 2 (mDisp (fun ds => .fr (.list ds)) mNil))
    (mSeqS lp__law_told_1
    (mRet (mCall 1 fm__law_put (mCons (mArg (mVar 2)) mNil)))))
def fm__law_told : FM := bodyRun 7 bd__law_told
def rg_law_1 : M EV :=
  mRgL (fun ds => .d (.tuple ds)) (mRg1 (M.bind (mVar 19) mFrz))
def cp_law_1 : M EV :=
  mComp (.nm 19) [19] (M.bind (mCons (mCallB pyLen (mCons (mVarB 18) mNil)) mNil) mRange1) mYes (M.bind (mGetE (mDictT (mCallB pyListOf (mCons (mVarB 9) mNil))) (M.bind rg_law_1 mFrz) (M.bind (mK (.int 0)) mFrz)) mFrz)
def cp_law_2 : M EV :=
  mComp (.nm 6) [6] (M.bind (M.bind (mVar 4) mFrz) mItems) (M.bind (mBin pyLe (mCallB pyLen (mCons (mVarB 6) mNil)) (mCallB pyLen (mCons (mVarB 16) mNil))) mBool) (M.bind (mCallB pyInt (mCons (mBin pyEq (mVarB 6) (mVarB 16)) mNil)) mFrz)
def cp_law_3 : M EV :=
  mComp (.tp [(.nm 14), (.nm 15)]) [14, 15] (M.bind (mCons (mArg (mVar 5)) (mCons (mArg (mVar 12)) mNil)) mZipM) mYes (M.bind (mBin pyAdd (mVarB 14) (mVarB 15)) mFrz)
def cp_law_4 : M EV :=
  mComp (.nm 6) [6] (M.bind (M.bind (mVar 4) mFrz) mItems) mYes (M.bind (mCall 2 fm__law_form_worth (mCons (mArg (mVar 11)) (mCons (mArg (mVar 6)) mNil))) mFrz)
def cp_law_5 : M EV :=
  mComp (.tp [(.nm 6), (.nm 10)]) [6, 10] (M.bind (mCons (mArg (mVar 4)) (mCons (mArg (mVar 5)) mNil)) mZipM) (M.bind (mBin pyNe (mCall 2 fm__law_form_worth (mCons (mArg (mVar 9)) (mCons (mArg (mVar 6)) mNil))) (mVarB 10)) mBool) (M.bind (mVar 6) mFrz)
def cp_law_6 : M EV :=
  mComp (.nm 6) [6] (M.bind (M.bind (mVar 4) mFrz) mItems) mYes (M.bind (mCall 2 fm__law_of (mCons (mArg (mVar 1)) (mCons (mArg (mDisp (fun ds => .fr (.list ds)) (mCons (mArg (mK (.int 0))) (mCons (mArg (mK (.int 0))) (mCons (mArg (mK (.int 1))) (mCons (mArg (mUn pyNeg (mK (.int 1)))) (mCons (mArg (mK (.int 2))) (mCons (mArg (mK (.int 7))) (mCons (mArg (mUn pyNeg (mBin pyPow (mK (.int 10)) (mK (.int 30))))) mNil))))))))) mNil))) mFrz)
def lb_law_1 : M Fl :=
  (mSeqS (mSet 3 (mBin pyIx (mDisp (fun ds => .fr (.list ds)) (mCons (mArg (mCall 2 fm__law_pick (mCons (mArg (mVar 1)) (mCons (mArg (mK (.int 4))) mNil)))) (mCons (mArg (mBin pyAdd (mK (.int 3)) (mCallB pyInt (mCons (mBin pyEq (mCall 2 fm__law_pick (mCons (mArg (mVar 1)) (mCons (mArg (mK (.int 8))) mNil))) (mK (.int 0))) mNil)))) mNil))) (mVarB 2)))
    (mSeqS (mSet 4 (mArg (mCall 1 fm__law_little (mCons (mArg (mVar 3)) mNil))))
    (mSeqS (mSet 5 (mCallB pyTupOf (mCons cp_law_6 mNil)))
    (mSeqS (mPar 7 8 (mCons (mArg (mCall 2 fm__law_told (mCons (mArg (mVar 4)) (mCons (mArg (mVar 5)) mNil)))) (mCons (mArg (mRepr (M.bind (mVar 5) mFrz))) mNil)))
    (mSeqS (mSet 9 (mArg (mCall 2 fm_form_of_table (mCons (mArg (mVar 3)) (mCons (mArg (mCallB pyListOf (mCons (mVarB 5) mNil))) mNil)))))
    (mSeqS (mIfS (mOrT (M.bind (mBin pyNe (mRepr (M.bind (mDisp (fun ds => .fr (.list ds)) (mCons (mArg (mVar 9)) (mCons (mArg (mCall 2 fm_form_of_table (mCons (mArg (mVar 3)) (mCons (mArg (mVar 5)) mNil)))) mNil))) mFrz)) (mRepr (M.bind (mDisp (fun ds => .fr (.list ds)) (mCons (mArg (mVar 7)) (mCons (mArg (mVar 7)) mNil))) mFrz))) mBool) (M.bind (mBin (pyIs true) (mCall 1 fm_is_form (mCons (mArg (mVar 9)) mNil)) (mK (.bool true))) mBool)) (mRet (mK (.bool false))) mNx)
    (mSeqS (mIfS (mOrT (M.bind (mBin pyNe (mRepr (M.bind (mCall 2 fm_table_of (mCons (mArg (mVar 9)) (mCons (mArg (mVar 3)) mNil))) mFrz)) (mRepr (M.bind (mVar 5) mFrz))) mBool) (mOrT (M.bind (mBin pyGt (mCall 1 fm_form_size (mCons (mArg (mVar 9)) mNil)) (mVarB 3)) mBool) (M.bind (mBin pyNe (mRepr (M.bind (mVar 5) mFrz)) (mVarB 8)) mBool))) (mRet (mK (.bool false))) mNx)
    (mSeqS (mIfS (M.bind (mBin pyNe cp_law_5 (mDisp (fun ds => .fr (.list ds)) mNil)) mBool) (mRet (mK (.bool false))) mNx)
    (mSeqS (mSet 11 (mArg (mCall 3 fm__law_form (mCons (mArg (mVar 1)) (mCons (mArg (mVar 3)) (mCons (mArg (mK (.int 4))) mNil))))))
    (mSeqS (mSet 12 (mArg cp_law_4))
    (mSeqS (mIfS (mOrT (M.bind (mBin pyNe (mRepr (M.bind (mCall 2 fm_table_of (mCons (mArg (mVar 11)) (mCons (mArg (mVar 3)) mNil))) mFrz)) (mRepr (M.bind (mCallB pyTupOf (mCons (mVarB 12) mNil)) mFrz))) mBool) (M.bind (mBin pyNe (mRepr (M.bind (mCall 2 fm_form_of_table (mCons (mArg (mVar 3)) (mCons (mArg (mVar 12)) mNil))) mFrz)) (mRepr (M.bind (mVar 11) mFrz))) mBool)) (mRet (mK (.bool false))) mNx)
    (mSeqS (mSet 13 (mArg cp_law_3))
    (mSeqS (mIfS (M.bind (mBin pyNe (mRepr (M.bind (mCall 2 fm_form_of_table (mCons (mArg (mVar 3)) (mCons (mArg (mVar 13)) mNil))) mFrz)) (mRepr (M.bind (mCall 2 fm_form_sum (mCons (mArg (mVar 9)) (mCons (mArg (mVar 11)) mNil))) mFrz))) mBool) (mRet (mK (.bool false))) mNx)
    (mSeqS (mSet 16 (mArg (mCall 2 fm__law_of (mCons (mArg (mVar 1)) (mCons (mArg (mVar 4)) mNil)))))
    (mSeqS (mSet 17 (mArg cp_law_2))
    (mSeqS (mIfS (M.bind (mBin pyNe (mRepr (M.bind (mCall 2 fm_table_of (mCons (mArg (mDisp (fun ds => .d (.tuple ds)) (mCons (mArg (mDisp (fun ds => .d (.tuple ds)) (mCons (mArg (mVar 16)) (mCons (mArg (mK (.int 1))) mNil)))) mNil))) (mCons (mArg (mCallB pyLen (mCons (mVarB 16) mNil))) mNil))) mFrz)) (mRepr (M.bind (mCallB pyTupOf (mCons (mVarB 17) mNil)) mFrz))) mBool) (mRet (mK (.bool false))) mNx)
    (mSeqS (mSet 18 (mArg (mIf (M.bind (mBin pyGt (mVarB 3) (mK (.int 0))) mBool) (mDisp (fun ds => .fr (.list ds)) (mCons (mArg (mBin pyIx (mVarB 5) (mK (.int 0)))) (mCons (mArg (mBin pySub (mBin pyIx (mVarB 5) (mK (.int 1))) (mBin pyIx (mVarB 5) (mK (.int 0))))) mNil))) (mDisp (fun ds => .fr (.list ds)) (mCons (mArg (mBin pyIx (mVarB 5) (mK (.int 0)))) mNil)))))
    (mIfS (M.bind (mBin pyNe cp_law_1 (mVarB 18)) mBool) (mRet (mK (.bool false))) mNx))))))))))))))))))
def lp_law_1 : M Fl :=
  mFor (.nm 2) (M.bind (mCons (mK (.int 2)) mNil) mRange1) lb_law_1
def bd_law : M Fl :=
  (mSeqS (mSet 1 (mArg (mCall 1 fm__law_open_cells (mCons (mArg (mVar 0)) mNil))))
    (mSeqS lp_law_1
    (mRet (mBin pyEq (mCall 2 fm_form_of_table (mCons (mArg (mK (.int 2))) (mCons (mArg (mDisp (fun ds => .d (.tuple ds)) (mCons (mArg (mK (.int 0))) (mCons (mArg (mK (.int 1))) (mCons (mArg (mK (.int 4))) (mCons (mArg (mK (.int 4))) mNil)))))) mNil))) (mDisp (fun ds => .d (.tuple ds)) (mCons (mArg (mDisp (fun ds => .d (.tuple ds)) (mCons (mArg (mDisp (fun ds => .d (.tuple ds)) (mCons (mArg (mK (.int 0))) mNil))) (mCons (mArg (mK (.int 1))) mNil)))) (mCons (mArg (mDisp (fun ds => .d (.tuple ds)) (mCons (mArg (mDisp (fun ds => .d (.tuple ds)) (mCons (mArg (mK (.int 0))) (mCons (mArg (mK (.int 1))) mNil)))) (mCons (mArg (mK (.int 2))) mNil)))) (mCons (mArg (mDisp (fun ds => .d (.tuple ds)) (mCons (mArg (mDisp (fun ds => .d (.tuple ds)) (mCons (mArg (mK (.int 1))) (mCons (mArg (mK (.int 0))) mNil)))) (mCons (mArg (mK (.int 2))) mNil)))) mNil))))))))
def fm_law : FM := bodyRun 20 bd_law
structure Zs (mg : Str → Option Value) (K : PySem.W.Frag) : Prop where
  abs : mg "abs" = none
  all : mg "all" = none
  bool : mg "bool" = none
  dict : mg "dict" = none
  int : mg "int" = none
  isinstance : mg "isinstance" = none
  len : mg "len" = none
  list : mg "list" = none
  max : mg "max" = none
  range : mg "range" = none
  repr : mg "repr" = none
  sorted : mg "sorted" = none
  sum : mg "sum" = none
  tuple : mg "tuple" = none
  zip : mg "zip" = none
  MOST_THINGS_formkit : Konst mg K "MOST_THINGS_formkit" (.int 6)
  MOST_THINGS_orderkit : Konst mg K "MOST_THINGS_orderkit" (.int 6)
section
variable {P : Program} {w : World} {K : PySem.W.Frag} {mg : Str → Option Value} {base : Heap}
theorem ok_orders_of (z : Zs mg K) (y : SysAt base) {f : Addr} {fd : FuncData} (Fu : Fun K "orders_of" "orders_of" s_orders_of f fd)  : FnD P w K mg base 1 f fd ["n"] fm_orders_of := by
  refine fnd_ok (N := N_orders_of) (k := 0) Fu sc_orders_of fun cdv A outer s H F l hr hg => ?_
  have hu := units_of hr
  exact (dss_cons (ds_if (dt_cmp (opd_gtX (hu64 hu)) (vB 0) (de_konst (by rfl) z.MOST_THINGS_orderkit) (nomark _)) (dss_one ds_never) dss_nil)
    (dss_cons (sSet 1 sc_orders_of.nd (de_arg (de_lst (da_cons (de_arg (de_tup da_nil)) da_nil))))
    (dss_cons (ds_for PassesOwn.never rfl (di_range1 (by rfl) z.range (da_cons (vB 0) da_nil)) (gN 2 sc_orders_of.nd) (dss_cons (sSet 3 sc_orders_of.nd (de_lst da_nil))
    (dss_cons (ds_for PassesOwn.never rfl (di_seq (dd_of (vV 1))) (gN 4 sc_orders_of.nd) (dss_one (ds_expr (de_extend (pv 3) (de_comp (own := [("height", 5)]) rfl sc_orders_of.nd (di_range1 (by rfl) z.range (da_cons (vB 0) da_nil)) (blkOk_by (N := N_orders_of) (sc := (defScope s_orders_of)) (own := [("height", 5)]) (by decide +kernel)) (fun _ _ _ _ _ => (gN 5 sc_orders_of.nd)) (fun _ _ _ _ _ => (dts_one (dt_cmp (opd_notin hu) (vB 5) (vB 4) (by rfl)))) (fun _ _ _ _ _ => (dd_of (de_tup (da_star (vB 4) (da_cons (de_arg (vV 5)) da_nil))))) rfl)))))
    (dss_one (sSet 1 sc_orders_of.nd (de_arg (de_callTy calld_list (by rfl) z.list bt_list (da_cons (vB 3) da_nil))))))))
    (dss_one (ds_ret (de_callTy calld_tuple (by rfl) z.tuple bt_tuple (da_cons (vB 1) da_nil)))))))
theorem ok_is_whole (z : Zs mg K) (y : SysAt base) {f : Addr} {fd : FuncData} (Fu : Fun K "is_whole" "is_whole" s_is_whole f fd)  : FnD P w K mg base 1 f fd ["value"] fm_is_whole := by
  refine fnd_ok (N := N_is_whole) (k := 0) Fu sc_is_whole fun cdv A outer s H F l hr hg => ?_
  have hu := units_of hr
  exact (dss_one (ds_ret (de_and (de_isi isi_int (by rfl) z.isinstance (by rfl) z.int bt_int (vB 0)) (de_one (de_not (de_isi isi_bool (by rfl) z.isinstance (by rfl) z.bool bt_bool (vB 0)))))))
theorem ok_is_order (z : Zs mg K) (y : SysAt base) {f : Addr} {fd : FuncData} (Fu : Fun K "is_order" "is_order" s_is_order f fd) (c_is_whole : Cal P w K mg base 1 "is_whole" ["value"] fm_is_whole) : FnD P w K mg base 2 f fd ["value"] fm_is_order := by
  refine fnd_ok (N := N_is_order) (k := 1) Fu sc_is_order fun cdv A outer s H F l hr hg => ?_
  have hu := units_of hr
  exact (dss_cons (ds_if (DW.dt (dw_or (dt_not (dt_val (de_isi isi_tuple (by rfl) z.isinstance (by rfl) z.tuple bt_tuple (vB 0)))) (dw_or1 (dt_not (dt_val (de_callB (calld_all rfl) (by rfl) z.all bt_all (da_cons (de_comp (own := [("height", 1)]) rfl sc_is_order.nd (di_seq (dd_of (vV 0))) (blkOk_by (N := N_is_order) (sc := (defScope s_is_order)) (own := [("height", 1)]) (by decide +kernel)) (fun _ _ _ _ _ => (gN 1 sc_is_order.nd)) (fun _ _ _ _ _ => dts_nil) (fun _ _ _ _ _ => (dd_of (cC c_is_whole hr hg (da_cons (de_arg (vV 1)) da_nil)))) rfl) da_nil))))))) (dss_one (ds_ret de_bool)) dss_nil)
    (dss_one (ds_ret (de_cmp (opd_eq (hu64 hu)) (de_callB (calld_sorted (hu64 hu)) (by rfl) z.sorted bt_sorted (da_cons (vB 0) da_nil)) (de_listRg rfl (by rfl) z.list (dr_1 (by rfl) z.range (dd_of (de_callB calld_len (by rfl) z.len bt_len (da_cons (vB 0) da_nil))))) (nomark _)))))
theorem ok_order_at (z : Zs mg K) (y : SysAt base) {f : Addr} {fd : FuncData} (Fu : Fun K "order_at" "order_at" s_order_at f fd)  : FnD P w K mg base 1 f fd ["order", "places"] fm_order_at := by
  refine fnd_ok (N := N_order_at) (k := 0) Fu sc_order_at fun cdv A outer s H F l hr hg => ?_
  have hu := units_of hr
  exact (dss_cons (ds_setCF (i := 2) (own := [("place", 3)]) rfl sc_order_at.nd rfl rfl (by rfl) (di_seq (dd_of (vV 1))) (blkOk_by (N := N_order_at) (sc := (defScope s_order_at)) (own := [("place", 3)]) (by decide +kernel)) (fun _ _ _ _ _ => (gN 3 sc_order_at.nd)) (fun _ _ _ _ _ => dts_nil) (fun _ _ _ _ _ => (dd_of (de_ix (vB 0) (vB 3)))) rfl)
    (dss_cons (sSet 4 sc_order_at.nd (de_arg (de_callB (calld_sorted (hu64 hu)) (by rfl) z.sorted bt_sorted (da_cons (vB 2) da_nil))))
    (dss_one (ds_ret (de_callTy calld_tuple (by rfl) z.tuple bt_tuple (da_cons (de_comp (own := [("height", 5)]) rfl sc_order_at.nd (di_seq (dd_of (vV 2))) (blkOk_by (N := N_order_at) (sc := (defScope s_order_at)) (own := [("height", 5)]) (by decide +kernel)) (fun _ _ _ _ _ => (gN 5 sc_order_at.nd)) (fun _ _ _ _ _ => dts_nil) (fun _ _ _ _ _ => (dd_of (de_index hu (vB 4) (vB 5)))) rfl) da_nil))))))
theorem ok_choices_of (z : Zs mg K) (y : SysAt base) {f : Addr} {fd : FuncData} (Fu : Fun K "choices_of" "choices_of" s_choices_of f fd)  : FnD P w K mg base 1 f fd ["things", "k"] fm_choices_of := by
  refine fnd_ok (N := N_choices_of) (k := 0) Fu sc_choices_of fun cdv A outer s H F l hr hg => ?_
  have hu := units_of hr
  exact (dss_cons (sSet 2 sc_choices_of.nd (de_arg (de_lst (da_cons (de_arg (de_tup (da_cons (de_arg (de_tup da_nil)) (da_cons (de_arg de_int) da_nil)))) da_nil))))
    (dss_cons (ds_for PassesOwn.never rfl (di_range1 (by rfl) z.range (da_cons (vB 1) da_nil)) (gN 3 sc_choices_of.nd) (dss_cons (sSet 4 sc_choices_of.nd (de_lst da_nil))
    (dss_cons (ds_for PassesOwn.never rfl (di_seq (dd_of (vV 2))) (dg_tup rfl (dgs_cons (gN 5 sc_choices_of.nd) (dgs_cons (gN 6 sc_choices_of.nd) dgs_nil))) (dss_one (ds_expr (de_extend (pv 4) (de_comp (own := [("i", 7)]) rfl sc_choices_of.nd (di_range2 (by rfl) z.range (da_cons (vB 6) (da_cons (de_callB calld_len (by rfl) z.len bt_len (da_cons (vB 0) da_nil)) da_nil))) (blkOk_by (N := N_choices_of) (sc := (defScope s_choices_of)) (own := [("i", 7)]) (by decide +kernel)) (fun _ _ _ _ _ => (gN 7 sc_choices_of.nd)) (fun _ _ _ _ _ => dts_nil) (fun _ _ _ _ _ => (dd_of (de_tup (da_cons (de_arg (de_tup (da_star (vB 5) (da_cons (de_arg (de_ix (vB 0) (vB 7))) da_nil)))) (da_cons (de_arg (de_bin opd_add (vB 7) de_int)) da_nil))))) rfl)))))
    (dss_one (sSet 2 sc_choices_of.nd (de_arg (de_callTy calld_list (by rfl) z.list bt_list (da_cons (vB 4) da_nil))))))))
    (dss_one (ds_ret (de_comp (own := [("some", 5), ("begin", 6)]) rfl sc_choices_of.nd (di_seq (dd_of (vV 2))) (blkOk_by (N := N_choices_of) (sc := (defScope s_choices_of)) (own := [("some", 5), ("begin", 6)]) (by decide +kernel)) (fun _ _ _ _ _ => (dg_tup rfl (dgs_cons (gN 5 sc_choices_of.nd) (dgs_cons (gN 6 sc_choices_of.nd) dgs_nil)))) (fun _ _ _ _ _ => dts_nil) (fun _ _ _ _ _ => (dd_of (vV 5))) rfl)))))
theorem ok_copies_of (z : Zs mg K) (y : SysAt base) {f : Addr} {fd : FuncData} (Fu : Fun K "copies_of" "copies_of" s_copies_of f fd) (c_choices_of : Cal P w K mg base 1 "choices_of" ["things", "k"] fm_choices_of) (c_order_at : Cal P w K mg base 1 "order_at" ["order", "places"] fm_order_at) : FnD P w K mg base 2 f fd ["p", "s"] fm_copies_of := by
  refine fnd_ok (N := N_copies_of) (k := 1) Fu sc_copies_of fun cdv A outer s H F l hr hg => ?_
  have hu := units_of hr
  exact (dss_one (ds_ret (de_callTy calld_tuple (by rfl) z.tuple bt_tuple (da_cons (de_comp (own := [("places", 2)]) rfl sc_copies_of.nd (di_seq (dd_of (cC c_choices_of hr hg (da_cons (de_arg (de_listRg rfl (by rfl) z.list (dr_1 (by rfl) z.range (dd_of (de_callB calld_len (by rfl) z.len bt_len (da_cons (vB 1) da_nil)))))) (da_cons (de_arg (de_callB calld_len (by rfl) z.len bt_len (da_cons (vB 0) da_nil))) da_nil))))) (blkOk_by (N := N_copies_of) (sc := (defScope s_copies_of)) (own := [("places", 2)]) (by decide +kernel)) (fun _ _ _ _ _ => (gN 2 sc_copies_of.nd)) (fun _ _ _ _ _ => (dts_one (dt_cmp (opd_eq (hu64 hu)) (cC c_order_at hr hg (da_cons (de_arg (vV 1)) (da_cons (de_arg (vV 2)) da_nil))) (vB 0) (nomark _)))) (fun _ _ _ _ _ => (dd_of (vV 2))) rfl) da_nil))))
theorem ok_count_of (z : Zs mg K) (y : SysAt base) {f : Addr} {fd : FuncData} (Fu : Fun K "count_of" "count_of" s_count_of f fd) (c_copies_of : Cal P w K mg base 2 "copies_of" ["p", "s"] fm_copies_of) : FnD P w K mg base 3 f fd ["p", "s"] fm_count_of := by
  refine fnd_ok (N := N_count_of) (k := 2) Fu sc_count_of fun cdv A outer s H F l hr hg => ?_
  have hu := units_of hr
  exact (dss_one (ds_ret (de_callB calld_len (by rfl) z.len bt_len (da_cons (cC c_copies_of hr hg (da_cons (de_arg (vV 0)) (da_cons (de_arg (vV 1)) da_nil))) da_nil))))
theorem ok_little_orders (z : Zs mg K) (y : SysAt base) {f : Addr} {fd : FuncData} (Fu : Fun K "little_orders" "little_orders" s_little_orders f fd) (c_orders_of : Cal P w K mg base 1 "orders_of" ["n"] fm_orders_of) : FnD P w K mg base 2 f fd ["k"] fm_little_orders := by
  refine fnd_ok (N := N_little_orders) (k := 1) Fu sc_little_orders fun cdv A outer s H F l hr hg => ?_
  have hu := units_of hr
  exact (dss_cons (sSet 1 sc_little_orders.nd (de_lst da_nil))
    (dss_cons (ds_for PassesOwn.never rfl (di_range1 (by rfl) z.range (da_cons (de_bin opd_add (vB 0) de_int) da_nil)) (gN 2 sc_little_orders.nd) (dss_one (ds_expr (de_extendA (pv 1) (cC c_orders_of hr hg (da_cons (de_arg (vV 2)) da_nil))))))
    (dss_one (ds_ret (de_callTy calld_tuple (by rfl) z.tuple bt_tuple (da_cons (vB 1) da_nil))))))
theorem ok_is_number (z : Zs mg K) (y : SysAt base) {f : Addr} {fd : FuncData} (Fu : Fun K "is_number" "is_number" s_is_number f fd)  : FnD P w K mg base 1 f fd ["value"] fm_is_number := by
  refine fnd_ok (N := N_is_number) (k := 0) Fu sc_is_number fun cdv A outer s H F l hr hg => ?_
  have hu := units_of hr
  exact (dss_one (ds_ret (de_and (de_isi isi_int (by rfl) z.isinstance (by rfl) z.int bt_int (vB 0)) (de_and (de_not (de_isi isi_bool (by rfl) z.isinstance (by rfl) z.bool bt_bool (vB 0))) (de_one (de_cmp (opd_ne (hu64 hu)) (vB 0) de_int (nomark _)))))))
theorem ok_is_pair (z : Zs mg K) (y : SysAt base) {f : Addr} {fd : FuncData} (Fu : Fun K "is_pair" "is_pair" s_is_pair f fd) (c_is_order : Cal P w K mg base 2 "is_order" ["value"] fm_is_order) (c_is_number : Cal P w K mg base 1 "is_number" ["value"] fm_is_number) : FnD P w K mg base 3 f fd ["value"] fm_is_pair := by
  refine fnd_ok (N := N_is_pair) (k := 2) Fu sc_is_pair fun cdv A outer s H F l hr hg => ?_
  have hu := units_of hr
  exact (dss_cons (ds_if (DW.dt (dw_or (dt_not (dt_val (de_isi isi_tuple (by rfl) z.isinstance (by rfl) z.tuple bt_tuple (vB 0)))) (dw_or1 (dt_cmp (opd_ne (hu64 hu)) (de_callB calld_len (by rfl) z.len bt_len (da_cons (vB 0) da_nil)) de_int (nomark _))))) (dss_one (ds_ret de_bool)) dss_nil)
    (dss_one (ds_ret (de_and (cC c_is_order hr hg (da_cons (de_arg (de_ix (vB 0) de_int)) da_nil)) (de_and (de_cmp (opd_leX (hu64 hu)) (de_callB calld_len (by rfl) z.len bt_len (da_cons (de_ix (vB 0) de_int) da_nil)) (de_konst (by rfl) z.MOST_THINGS_formkit) (nomark _)) (de_one (cC c_is_number hr hg (da_cons (de_arg (de_ix (vB 0) de_int)) da_nil))))))))
theorem ok_is_form (z : Zs mg K) (y : SysAt base) {f : Addr} {fd : FuncData} (Fu : Fun K "is_form" "is_form" s_is_form f fd) (c_is_pair : Cal P w K mg base 3 "is_pair" ["value"] fm_is_pair) : FnD P w K mg base 4 f fd ["value"] fm_is_form := by
  refine fnd_ok (N := N_is_form) (k := 3) Fu sc_is_form fun cdv A outer s H F l hr hg => ?_
  have hu := units_of hr
  exact (dss_cons (ds_if (DW.dt (dw_or (dt_not (dt_val (de_isi isi_tuple (by rfl) z.isinstance (by rfl) z.tuple bt_tuple (vB 0)))) (dw_or1 (dt_not (dt_val (de_callB (calld_all rfl) (by rfl) z.all bt_all (da_cons (de_comp (own := [("pair", 1)]) rfl sc_is_form.nd (di_seq (dd_of (vV 0))) (blkOk_by (N := N_is_form) (sc := (defScope s_is_form)) (own := [("pair", 1)]) (by decide +kernel)) (fun _ _ _ _ _ => (gN 1 sc_is_form.nd)) (fun _ _ _ _ _ => dts_nil) (fun _ _ _ _ _ => (dd_of (cC c_is_pair hr hg (da_cons (de_arg (vV 1)) da_nil)))) rfl) da_nil))))))) (dss_one (ds_ret de_bool)) dss_nil)
    (dss_one (ds_ret (de_callB (calld_all rfl) (by rfl) z.all bt_all (da_cons (de_comp (own := [("one", 2), ("late", 3)]) rfl sc_is_form.nd (di_zip (by rfl) z.zip (da_cons (de_arg (vV 0)) (da_cons (de_arg (de_slice (vB 0) (do_some (dd_of de_int)) do_none)) da_nil))) (blkOk_by (N := N_is_form) (sc := (defScope s_is_form)) (own := [("one", 2), ("late", 3)]) (by decide +kernel)) (fun _ _ _ _ _ => (dg_tup rfl (dgs_cons (gN 2 sc_is_form.nd) (dgs_cons (gN 3 sc_is_form.nd) dgs_nil)))) (fun _ _ _ _ _ => dts_nil) (fun _ _ _ _ _ => (dd_of (de_cmp (opd_ltX (hu64 hu)) (de_ix (vB 2) de_int) (de_ix (vB 3) de_int) (nomark _)))) rfl) da_nil)))))
theorem ok_form_of_pairs (z : Zs mg K) (y : SysAt base) {f : Addr} {fd : FuncData} (Fu : Fun K "form_of_pairs" "form_of_pairs" s_form_of_pairs f fd)  : FnD P w K mg base 1 f fd ["pairs"] fm_form_of_pairs := by
  refine fnd_ok (N := N_form_of_pairs) (k := 0) Fu sc_form_of_pairs fun cdv A outer s H F l hr hg => ?_
  have hu := units_of hr
  exact (dss_cons (sSet 1 sc_form_of_pairs.nd de_newT)
    (dss_cons (ds_for PassesOwn.never rfl (di_seq (dd_of (vV 0))) (dg_tup rfl (dgs_cons (gN 2 sc_form_of_pairs.nd) (dgs_cons (gN 3 sc_form_of_pairs.nd) dgs_nil))) (dss_one (ds_tput (hu1 hu) (pv 1) (dd_of (de_bin opd_add (de_tget2 (hu1 hu) (pv 1) (dd_of (vV 2)) (dd_of de_int)) (vB 3))) (dd_of (vV 2)))))
    (dss_one (ds_ret (de_callTy calld_tuple (by rfl) z.tuple bt_tuple (da_cons (de_comp (own := [("p", 2)]) rfl sc_form_of_pairs.nd (di_seq (dd_of (de_tsort rfl (hu64 hu) (by rfl) z.sorted bt_sorted (pv 1)))) (blkOk_by (N := N_form_of_pairs) (sc := (defScope s_form_of_pairs)) (own := [("p", 2)]) (by decide +kernel)) (fun _ _ _ _ _ => (gN 2 sc_form_of_pairs.nd)) (fun _ _ _ _ _ => (dts_one (dt_cmp (opd_ne (hu64 hu)) (de_tget (hu1 hu) (pv 1) (dd_of (vV 2))) de_int (nomark _)))) (fun _ _ _ _ _ => (dd_of (de_tup (da_cons (de_arg (vV 2)) (da_cons (de_arg (de_tget (hu1 hu) (pv 1) (dd_of (vV 2)))) da_nil))))) rfl) da_nil))))))
theorem ok_form_sum (z : Zs mg K) (y : SysAt base) {f : Addr} {fd : FuncData} (Fu : Fun K "form_sum" "form_sum" s_form_sum f fd) (c_form_of_pairs : Cal P w K mg base 1 "form_of_pairs" ["pairs"] fm_form_of_pairs) : FnD P w K mg base 2 f fd ["a", "b"] fm_form_sum := by
  refine fnd_ok (N := N_form_sum) (k := 1) Fu sc_form_sum fun cdv A outer s H F l hr hg => ?_
  have hu := units_of hr
  exact (dss_one (ds_ret (cC c_form_of_pairs hr hg (da_cons (de_arg (de_lst (da_star (vB 0) (da_star (vB 1) da_nil)))) da_nil))))
theorem ok_form_size (z : Zs mg K) (y : SysAt base) {f : Addr} {fd : FuncData} (Fu : Fun K "form_size" "form_size" s_form_size f fd)  : FnD P w K mg base 1 f fd ["form"] fm_form_size := by
  refine fnd_ok (N := N_form_size) (k := 0) Fu sc_form_size fun cdv A outer s H F l hr hg => ?_
  have hu := units_of hr
  exact (dss_one (ds_ret (de_maxDef rfl (hu64 hu) (by rfl) z.max bt_max (de_comp (own := [("p", 1), ("c", 2)]) rfl sc_form_size.nd (di_seq (dd_of (vV 0))) (blkOk_by (N := N_form_size) (sc := (defScope s_form_size)) (own := [("p", 1), ("c", 2)]) (by decide +kernel)) (fun _ _ _ _ _ => (dg_tup rfl (dgs_cons (gN 1 sc_form_size.nd) (dgs_cons (gN 2 sc_form_size.nd) dgs_nil)))) (fun _ _ _ _ _ => dts_nil) (fun _ _ _ _ _ => (dd_of (de_callB calld_len (by rfl) z.len bt_len (da_cons (vB 1) da_nil)))) rfl) (de_un und_neg de_int))))
theorem ok_form_worth (z : Zs mg K) (y : SysAt base) {f : Addr} {fd : FuncData} (Fu : Fun K "form_worth" "form_worth" s_form_worth f fd) (c_count_of : Cal P w K mg base 3 "count_of" ["p", "s"] fm_count_of) : FnD P w K mg base 4 f fd ["form", "s"] fm_form_worth := by
  refine fnd_ok (N := N_form_worth) (k := 3) Fu sc_form_worth fun cdv A outer s H F l hr hg => ?_
  have hu := units_of hr
  exact (dss_one (ds_ret (de_callB (calld_sum rfl) (by rfl) z.sum bt_sum (da_cons (de_comp (own := [("p", 2), ("c", 3)]) rfl sc_form_worth.nd (di_seq (dd_of (vV 0))) (blkOk_by (N := N_form_worth) (sc := (defScope s_form_worth)) (own := [("p", 2), ("c", 3)]) (by decide +kernel)) (fun _ _ _ _ _ => (dg_tup rfl (dgs_cons (gN 2 sc_form_worth.nd) (dgs_cons (gN 3 sc_form_worth.nd) dgs_nil)))) (fun _ _ _ _ _ => dts_nil) (fun _ _ _ _ _ => (dd_of (de_bin opd_mul (vB 3) (cC c_count_of hr hg (da_cons (de_arg (vV 2)) (da_cons (de_arg (vV 1)) da_nil)))))) rfl) da_nil))))
theorem ok_table_of (z : Zs mg K) (y : SysAt base) {f : Addr} {fd : FuncData} (Fu : Fun K "table_of" "table_of" s_table_of f fd) (c_little_orders : Cal P w K mg base 2 "little_orders" ["k"] fm_little_orders) (c_form_worth : Cal P w K mg base 4 "form_worth" ["form", "s"] fm_form_worth) : FnD P w K mg base 5 f fd ["form", "k"] fm_table_of := by
  refine fnd_ok (N := N_table_of) (k := 4) Fu sc_table_of fun cdv A outer s H F l hr hg => ?_
  have hu := units_of hr
  exact (dss_one (ds_ret (de_callTy calld_tuple (by rfl) z.tuple bt_tuple (da_cons (de_comp (own := [("order", 2)]) rfl sc_table_of.nd (di_seq (dd_of (cC c_little_orders hr hg (da_cons (de_arg (vV 1)) da_nil)))) (blkOk_by (N := N_table_of) (sc := (defScope s_table_of)) (own := [("order", 2)]) (by decide +kernel)) (fun _ _ _ _ _ => (gN 2 sc_table_of.nd)) (fun _ _ _ _ _ => dts_nil) (fun _ _ _ _ _ => (dd_of (cC c_form_worth hr hg (da_cons (de_arg (vV 0)) (da_cons (de_arg (vV 2)) da_nil))))) rfl) da_nil))))
theorem ok_form_of_table (z : Zs mg K) (y : SysAt base) {f : Addr} {fd : FuncData} (Fu : Fun K "form_of_table" "form_of_table" s_form_of_table f fd) (c_form_of_pairs : Cal P w K mg base 1 "form_of_pairs" ["pairs"] fm_form_of_pairs) (c_little_orders : Cal P w K mg base 2 "little_orders" ["k"] fm_little_orders) (c_form_worth : Cal P w K mg base 4 "form_worth" ["form", "s"] fm_form_worth) : FnD P w K mg base 5 f fd ["k", "numbers"] fm_form_of_table := by
  refine fnd_ok (N := N_form_of_table) (k := 4) Fu sc_form_of_table fun cdv A outer s H F l hr hg => ?_
  have hu := units_of hr
  exact (dss_cons (sSet 2 sc_form_of_table.nd (de_lst da_nil))
    (dss_cons (ds_for PassesOwn.never rfl (di_zipM (by rfl) z.zip (da_cons (de_arg (cC c_little_orders hr hg (da_cons (de_arg (vV 0)) da_nil))) (da_cons (de_arg (vV 1)) da_nil))) (dg_tup rfl (dgs_cons (gN 3 sc_form_of_table.nd) (dgs_cons (gN 4 sc_form_of_table.nd) dgs_nil))) (dss_one (ds_expr (de_append (pv 2) (dd_of (de_tup (da_cons (de_arg (vV 3)) (da_cons (de_arg (de_bin opd_sub (vB 4) (cC c_form_worth hr hg (da_cons (de_arg (de_thaw (cC c_form_of_pairs hr hg (da_cons (de_arg (vV 2)) da_nil)))) (da_cons (de_arg (vV 3)) da_nil))))) da_nil))))))))
    (dss_one (ds_ret (cC c_form_of_pairs hr hg (da_cons (de_arg (vV 2)) da_nil))))))
theorem ok__law_open_cells (z : Zs mg K) (y : SysAt base) {f : Addr} {fd : FuncData} (Fu : Fun K "_law_open_cells" "_law_open_cells" s__law_open_cells f fd)  : FnD P w K mg base 1 f fd ["script"] fm__law_open_cells := by
  refine fnd_ok (N := N__law_open_cells) (k := 0) Fu sc__law_open_cells fun cdv A outer s H F l hr hg => ?_
  have hu := units_of hr
  exact (dss_cons (sSet 1 sc__law_open_cells.nd de_int)
    (dss_cons (ds_for PassesOwn.never rfl (di_scr (vB 0)) (gN 2 sc__law_open_cells.nd) (dss_one (sSet 1 sc__law_open_cells.nd (de_bin opd_mod (de_callTy calld_int (by rfl) z.int bt_int (da_cons (de_bin opd_add (de_bin opd_add (de_bin opd_mul (vB 1) de_int) (de_bin opd_mul (vB 2) de_int)) de_int) da_nil)) de_int))))
    (dss_cons (ds_setCF (i := 3) (own := [("cell", 2)]) rfl sc__law_open_cells.nd rfl rfl (by rfl) (di_scr (vB 0)) (blkOk_by (N := N__law_open_cells) (sc := (defScope s__law_open_cells)) (own := [("cell", 2)]) (by decide +kernel)) (fun _ _ _ _ _ => (gN 2 sc__law_open_cells.nd)) (fun _ _ _ _ _ => dts_nil) (fun _ _ _ _ _ => (dd_of (de_callB calld_abs (by rfl) z.abs bt_abs (da_cons (vB 2) da_nil)))) rfl)
    (dss_one (ds_ret (de_srcNew (de_rev (vB 3)) de_int (vV 1) de_int))))))
theorem ok__law_pick (z : Zs mg K) (y : SysAt base) {f : Addr} {fd : FuncData} (Fu : Fun K "_law_pick" "_law_pick" s__law_pick f fd)  : FnD P w K mg base 1 f fd ["source", "most"] fm__law_pick := by
  refine fnd_ok (N := N__law_pick) (k := 0) Fu sc__law_pick fun cdv A outer s H F l hr hg => ?_
  have hu := units_of hr
  exact (dss_cons (ds_if (dt_cmp (opd_ltX (hu64 hu)) (vB 1) de_int (nomark _)) (dss_one (ds_ret de_int)) dss_nil)
    (dss_cons (sSet 2 sc__law_pick.nd (de_srcGet (hu1 hu) (vB 0)))
    (dss_cons (ds_while fuel__law_pick PassesOwn.never (DW.dt (dw_and (dt_cmp (opd_ltX (hu64 hu)) (de_srcGet (hu1 hu) (vB 0)) de_int (nomark _)) (dw_and1 (dt_cmp (opd_gtX (hu64 hu)) (de_srcLen (by rfl) z.len (vB 2)) de_int (nomark _))))) (dss_one (ds_srcPut (hu1 hu) (de_srcPop (vB 2)) (vB 0))))
    (dss_cons (sSet 3 sc__law_pick.nd (de_srcGet (hu1 hu) (vB 0)))
    (dss_cons (ds_if (dt_cmp (opd_gtX (hu64 hu)) (vB 3) de_int (nomark _)) (dss_cons (ds_srcPut (hu1 hu) (de_bin opd_fdiv (vB 3) (vB 1)) (vB 0))
    (dss_one (ds_ret (de_bin opd_mod (de_callTy calld_int (by rfl) z.int bt_int (da_cons (vB 3) da_nil)) (vB 1))))) dss_nil)
    (dss_cons (ds_srcPut (hu1 hu) (de_bin opd_add (de_srcGet (hu1 hu) (vB 0)) de_int) (vB 0))
    (dss_cons (sSet 4 sc__law_pick.nd (de_srcGet (hu1 hu) (vB 0)))
    (dss_cons (sSet 5 sc__law_pick.nd (de_bin opd_mod (de_callTy calld_int (by rfl) z.int bt_int (da_cons (de_bin opd_add (de_srcGet (hu1 hu) (vB 0)) (de_bin opd_mul (vB 4) de_int)) da_nil)) de_int))
    (dss_cons (sSet 5 sc__law_pick.nd (de_bin opd_mod (de_callTy calld_int (by rfl) z.int bt_int (da_cons (de_bin opd_add (de_bin opd_mul (vB 5) (vB 5)) (de_bin opd_mul (vB 4) de_int)) da_nil)) de_int))
    (dss_one (ds_ret (de_bin opd_mod (de_callTy calld_int (by rfl) z.int bt_int (da_cons (de_bin opd_fdiv (vB 5) de_int) da_nil)) (vB 1)))))))))))))
theorem ok__law_of (z : Zs mg K) (y : SysAt base) {f : Addr} {fd : FuncData} (Fu : Fun K "_law_of" "_law_of" s__law_of f fd) (c__law_pick : Cal P w K mg base 1 "_law_pick" ["source", "most"] fm__law_pick) : FnD P w K mg base 2 f fd ["source", "some"] fm__law_of := by
  refine fnd_ok (N := N__law_of) (k := 1) Fu sc__law_of fun cdv A outer s H F l hr hg => ?_
  have hu := units_of hr
  exact (dss_one (ds_ret (de_ix (vB 1) (cC c__law_pick hr hg (da_cons (de_arg (vV 0)) (da_cons (de_arg (de_callB calld_len (by rfl) z.len bt_len (da_cons (vB 1) da_nil))) da_nil))))))
theorem ok__law_orders (z : Zs mg K) (y : SysAt base) {f : Addr} {fd : FuncData} (Fu : Fun K "_law_orders" "_law_orders" s__law_orders f fd)  : FnD P w K mg base 1 f fd ["n"] fm__law_orders := by
  refine fnd_ok (N := N__law_orders) (k := 0) Fu sc__law_orders fun cdv A outer s H F l hr hg => ?_
  have hu := units_of hr
  exact (dss_cons (sSet 1 sc__law_orders.nd (de_arg (de_lst (da_cons (de_arg (de_tup da_nil)) da_nil))))
    (dss_cons (ds_for PassesOwn.never rfl (di_range1 (by rfl) z.range (da_cons (vB 0) da_nil)) (gN 2 sc__law_orders.nd) (dss_cons (sSet 3 sc__law_orders.nd (de_lst da_nil))
    (dss_cons (ds_for PassesOwn.never rfl (di_seq (dd_of (vV 1))) (gN 4 sc__law_orders.nd) (dss_one (ds_expr (de_extend (pv 3) (de_comp (own := [("height", 5)]) rfl sc__law_orders.nd (di_range1 (by rfl) z.range (da_cons (vB 0) da_nil)) (blkOk_by (N := N__law_orders) (sc := (defScope s__law_orders)) (own := [("height", 5)]) (by decide +kernel)) (fun _ _ _ _ _ => (gN 5 sc__law_orders.nd)) (fun _ _ _ _ _ => (dts_one (dt_cmp (opd_notin hu) (vB 5) (vB 4) (by rfl)))) (fun _ _ _ _ _ => (dd_of (de_bin opd_add (vB 4) (de_tup (da_cons (de_arg (vV 5)) da_nil))))) rfl)))))
    (dss_one (sSet 1 sc__law_orders.nd (de_arg (de_callTy calld_list (by rfl) z.list bt_list (da_cons (vB 3) da_nil))))))))
    (dss_one (ds_retV (pv 1)))))
theorem ok__law_little (z : Zs mg K) (y : SysAt base) {f : Addr} {fd : FuncData} (Fu : Fun K "_law_little" "_law_little" s__law_little f fd) (c__law_orders : Cal P w K mg base 1 "_law_orders" ["n"] fm__law_orders) : FnD P w K mg base 2 f fd ["k"] fm__law_little := by
  refine fnd_ok (N := N__law_little) (k := 1) Fu sc__law_little fun cdv A outer s H F l hr hg => ?_
  have hu := units_of hr
  exact (dss_cons (sSet 1 sc__law_little.nd (de_lst da_nil))
    (dss_cons (ds_for PassesOwn.never rfl (di_range1 (by rfl) z.range (da_cons (de_bin opd_add (vB 0) de_int) da_nil)) (gN 2 sc__law_little.nd) (dss_one (ds_expr (de_extendA (pv 1) (cC c__law_orders hr hg (da_cons (de_arg (vV 2)) da_nil))))))
    (dss_one (ds_retV (pv 1)))))
theorem ok__law_chosen (z : Zs mg K) (y : SysAt base) {f : Addr} {fd : FuncData} (Fu : Fun K "_law_chosen" "_law_chosen" s__law_chosen f fd)  : FnD P w K mg base 1 f fd ["n", "k"] fm__law_chosen := by
  refine fnd_ok (N := N__law_chosen) (k := 0) Fu sc__law_chosen fun cdv A outer s H F l hr hg => ?_
  have hu := units_of hr
  exact (dss_cons (sSet 2 sc__law_chosen.nd (de_arg (de_lst (da_cons (de_arg (de_tup da_nil)) da_nil))))
    (dss_cons (ds_for PassesOwn.never rfl (di_range1 (by rfl) z.range (da_cons (vB 1) da_nil)) (gN 3 sc__law_chosen.nd) (dss_cons (sSet 4 sc__law_chosen.nd (de_lst da_nil))
    (dss_cons (ds_for PassesOwn.never rfl (di_seq (dd_of (vV 2))) (gN 5 sc__law_chosen.nd) (dss_one (ds_expr (de_extend (pv 4) (de_comp (own := [("place", 6)]) rfl sc__law_chosen.nd (di_range2 (by rfl) z.range (da_cons (de_if (dt_cmp (opd_ne (hu64 hu)) (vB 5) (de_tup da_nil) (nomark _)) (de_bin opd_add (de_ix (vB 5) (de_un und_neg de_int)) de_int) de_int) (da_cons (vB 0) da_nil))) (blkOk_by (N := N__law_chosen) (sc := (defScope s__law_chosen)) (own := [("place", 6)]) (by decide +kernel)) (fun _ _ _ _ _ => (gN 6 sc__law_chosen.nd)) (fun _ _ _ _ _ => dts_nil) (fun _ _ _ _ _ => (dd_of (de_bin opd_add (vB 5) (de_tup (da_cons (de_arg (vV 6)) da_nil))))) rfl)))))
    (dss_one (sSet 2 sc__law_chosen.nd (de_arg (de_callTy calld_list (by rfl) z.list bt_list (da_cons (vB 4) da_nil))))))))
    (dss_one (ds_retV (pv 2)))))
theorem ok__law_order_at (z : Zs mg K) (y : SysAt base) {f : Addr} {fd : FuncData} (Fu : Fun K "_law_order_at" "_law_order_at" s__law_order_at f fd)  : FnD P w K mg base 1 f fd ["order", "places"] fm__law_order_at := by
  refine fnd_ok (N := N__law_order_at) (k := 0) Fu sc__law_order_at fun cdv A outer s H F l hr hg => ?_
  have hu := units_of hr
  exact (dss_cons (sSet 2 sc__law_order_at.nd (de_arg (de_comp (own := [("place", 3)]) rfl sc__law_order_at.nd (di_seq (dd_of (vV 1))) (blkOk_by (N := N__law_order_at) (sc := (defScope s__law_order_at)) (own := [("place", 3)]) (by decide +kernel)) (fun _ _ _ _ _ => (gN 3 sc__law_order_at.nd)) (fun _ _ _ _ _ => dts_nil) (fun _ _ _ _ _ => (dd_of (de_ix (vB 0) (vB 3)))) rfl)))
    (dss_one (ds_ret (de_callTy calld_tuple (by rfl) z.tuple bt_tuple (da_cons (de_comp (own := [("height", 5)]) rfl sc__law_order_at.nd (di_seq (dd_of (vV 2))) (blkOk_by (N := N__law_order_at) (sc := (defScope s__law_order_at)) (own := [("height", 5)]) (by decide +kernel)) (fun _ _ _ _ _ => (gN 5 sc__law_order_at.nd)) (fun _ _ _ _ _ => dts_nil) (fun _ _ _ _ _ => (dd_of (de_callB calld_len (by rfl) z.len bt_len (da_cons (de_comp (own := [("other", 4)]) rfl sc__law_order_at.nd (di_seq (dd_of (vV 2))) (blkOk_by (N := N__law_order_at) (sc := ({ kind := PySem.ScopeKind.function, names := [ (PySem.Str.ofString ".0", PySem.NameKind.local), (PySem.Str.ofString "height", PySem.NameKind.cell), (PySem.Str.ofString "len", PySem.NameKind.globalImplicit), (PySem.Str.ofString "heights", PySem.NameKind.cell)], isGenerator := false, isCoroutine := false, more := [] : PySem.Scope })) (own := [("other", 4)]) (by decide +kernel)) (fun _ _ _ _ _ => (gN 4 sc__law_order_at.nd)) (fun _ _ _ _ _ => (dts_one (dt_cmp (opd_ltX (hu64 hu)) (vB 4) (vB 5) (nomark _)))) (fun _ _ _ _ _ => (dd_of de_int)) rfl) da_nil)))) rfl) da_nil)))))
theorem ok__law_count (z : Zs mg K) (y : SysAt base) {f : Addr} {fd : FuncData} (Fu : Fun K "_law_count" "_law_count" s__law_count f fd) (c__law_chosen : Cal P w K mg base 1 "_law_chosen" ["n", "k"] fm__law_chosen) (c__law_order_at : Cal P w K mg base 1 "_law_order_at" ["order", "places"] fm__law_order_at) : FnD P w K mg base 2 f fd ["p", "s"] fm__law_count := by
  refine fnd_ok (N := N__law_count) (k := 1) Fu sc__law_count fun cdv A outer s H F l hr hg => ?_
  have hu := units_of hr
  exact (dss_one (ds_ret (de_callB calld_len (by rfl) z.len bt_len (da_cons (de_comp (own := [("places", 2)]) rfl sc__law_count.nd (di_seq (dd_of (cC c__law_chosen hr hg (da_cons (de_arg (de_callB calld_len (by rfl) z.len bt_len (da_cons (vB 1) da_nil))) (da_cons (de_arg (de_callB calld_len (by rfl) z.len bt_len (da_cons (vB 0) da_nil))) da_nil))))) (blkOk_by (N := N__law_count) (sc := (defScope s__law_count)) (own := [("places", 2)]) (by decide +kernel)) (fun _ _ _ _ _ => (gN 2 sc__law_count.nd)) (fun _ _ _ _ _ => (dts_one (dt_cmp (opd_eq (hu64 hu)) (cC c__law_order_at hr hg (da_cons (de_arg (vV 1)) (da_cons (de_arg (vV 2)) da_nil))) (vB 0) (nomark _)))) (fun _ _ _ _ _ => (dd_of de_int)) rfl) da_nil))))
theorem ok__law_form_worth (z : Zs mg K) (y : SysAt base) {f : Addr} {fd : FuncData} (Fu : Fun K "_law_form_worth" "_law_form_worth" s__law_form_worth f fd) (c__law_count : Cal P w K mg base 2 "_law_count" ["p", "s"] fm__law_count) : FnD P w K mg base 3 f fd ["form", "s"] fm__law_form_worth := by
  refine fnd_ok (N := N__law_form_worth) (k := 2) Fu sc__law_form_worth fun cdv A outer s H F l hr hg => ?_
  have hu := units_of hr
  exact (dss_one (ds_ret (de_callB (calld_sum rfl) (by rfl) z.sum bt_sum (da_cons (de_comp (own := [("p", 2), ("c", 3)]) rfl sc__law_form_worth.nd (di_seq (dd_of (vV 0))) (blkOk_by (N := N__law_form_worth) (sc := (defScope s__law_form_worth)) (own := [("p", 2), ("c", 3)]) (by decide +kernel)) (fun _ _ _ _ _ => (dg_tup rfl (dgs_cons (gN 2 sc__law_form_worth.nd) (dgs_cons (gN 3 sc__law_form_worth.nd) dgs_nil)))) (fun _ _ _ _ _ => dts_nil) (fun _ _ _ _ _ => (dd_of (de_bin opd_mul (vB 3) (cC c__law_count hr hg (da_cons (de_arg (vV 2)) (da_cons (de_arg (vV 1)) da_nil)))))) rfl) da_nil))))
theorem ok__law_put (z : Zs mg K) (y : SysAt base) {f : Addr} {fd : FuncData} (Fu : Fun K "_law_put" "_law_put" s__law_put f fd)  : FnD P w K mg base 1 f fd ["pairs"] fm__law_put := by
  refine fnd_ok (N := N__law_put) (k := 0) Fu sc__law_put fun cdv A outer s H F l hr hg => ?_
  have hu := units_of hr
  exact (dss_cons (sSet 1 sc__law_put.nd de_newT)
    (dss_cons (ds_for PassesOwn.never rfl (di_seq (dd_of (vV 0))) (dg_tup rfl (dgs_cons (gN 2 sc__law_put.nd) (dgs_cons (gN 3 sc__law_put.nd) dgs_nil))) (dss_one (ds_tput (hu1 hu) (pv 1) (dd_of (de_bin opd_add (de_tget2 (hu1 hu) (pv 1) (dd_of (vV 2)) (dd_of de_int)) (vB 3))) (dd_of (vV 2)))))
    (dss_one (ds_ret (de_callTy calld_tuple (by rfl) z.tuple bt_tuple (da_cons (de_comp (own := [("p", 2)]) rfl sc__law_put.nd (di_seq (dd_of (de_tsort rfl (hu64 hu) (by rfl) z.sorted bt_sorted (pv 1)))) (blkOk_by (N := N__law_put) (sc := (defScope s__law_put)) (own := [("p", 2)]) (by decide +kernel)) (fun _ _ _ _ _ => (gN 2 sc__law_put.nd)) (fun _ _ _ _ _ => (dts_one (dt_cmp (opd_ne (hu64 hu)) (de_tget (hu1 hu) (pv 1) (dd_of (vV 2))) de_int (nomark _)))) (fun _ _ _ _ _ => (dd_of (de_tup (da_cons (de_arg (vV 2)) (da_cons (de_arg (de_tget (hu1 hu) (pv 1) (dd_of (vV 2)))) da_nil))))) rfl) da_nil))))))
theorem ok__law_form (z : Zs mg K) (y : SysAt base) {f : Addr} {fd : FuncData} (Fu : Fun K "_law_form" "_law_form" s__law_form f fd) (c__law_put : Cal P w K mg base 1 "_law_put" ["pairs"] fm__law_put) (c__law_pick : Cal P w K mg base 1 "_law_pick" ["source", "most"] fm__law_pick) (c__law_of : Cal P w K mg base 2 "_law_of" ["source", "some"] fm__law_of) (c__law_little : Cal P w K mg base 2 "_law_little" ["k"] fm__law_little) : FnD P w K mg base 3 f fd ["source", "k", "most"] fm__law_form := by
  refine fnd_ok (N := N__law_form) (k := 2) Fu sc__law_form fun cdv A outer s H F l hr hg => ?_
  have hu := units_of hr
  exact (dss_cons (ds_parF (i := 3) (j := 4) rfl sc__law_form.nd rfl rfl (by decide) rfl rfl (de_arg (cC c__law_little hr hg (da_cons (de_arg (vV 1)) da_nil))) (de_lst da_nil) (by rfl))
    (dss_cons (ds_for PassesOwn.never rfl (di_range1 (by rfl) z.range (da_cons (cC c__law_pick hr hg (da_cons (de_arg (vV 0)) (da_cons (de_arg (de_bin opd_add (vB 2) de_int)) da_nil))) da_nil)) (gN 5 sc__law_form.nd) (dss_one (ds_expr (de_append (pv 4) (dd_of (de_tup (da_cons (de_arg (cC c__law_of hr hg (da_cons (de_arg (vV 0)) (da_cons (de_arg (vV 3)) da_nil)))) (da_cons (de_arg (cC c__law_of hr hg (da_cons (de_arg (vV 0)) (da_cons (de_arg (de_lst (da_cons (de_arg de_int) (da_cons (de_arg de_int) (da_cons (de_arg de_int) (da_cons (de_arg (de_un und_neg de_int)) (da_cons (de_arg (de_un und_neg de_int)) (da_cons (de_arg de_int) (da_cons (de_arg de_int) (da_cons (de_arg (de_bin opd_pow de_int de_int)) da_nil)))))))))) da_nil)))) da_nil))))))))
    (dss_one (ds_ret (cC c__law_put hr hg (da_cons (de_arg (vV 4)) da_nil))))))
theorem ok__law_told (z : Zs mg K) (y : SysAt base) {f : Addr} {fd : FuncData} (Fu : Fun K "_law_told" "_law_told" s__law_told f fd) (c__law_put : Cal P w K mg base 1 "_law_put" ["pairs"] fm__law_put) (c__law_count : Cal P w K mg base 2 "_law_count" ["p", "s"] fm__law_count) : FnD P w K mg base 3 f fd ["every", "numbers"] fm__law_told := by
  refine fnd_ok (N := N__law_told) (k := 2) Fu sc__law_told fun cdv A outer s H F l hr hg => ?_
  have hu := units_of hr
  exact (dss_cons (sSet 2 sc__law_told.nd (de_lst da_nil))
    (dss_cons (ds_for PassesOwn.never rfl (di_zipM (by rfl) z.zip (da_cons (de_arg (vV 0)) (da_cons (de_arg (vV 1)) da_nil))) (dg_tup rfl (dgs_cons (gN 3 sc__law_told.nd) (dgs_cons (gN 4 sc__law_told.nd) dgs_nil))) (dss_one (ds_expr (de_append (pv 2) (dd_of (de_tup (da_cons (de_arg (vV 3)) (da_cons (de_arg (de_bin opd_sub (vB 4) (de_thaw (de_callB (calld_sum rfl) (by rfl) z.sum bt_sum (da_cons (de_comp (own := [("p", 5), ("c", 6)]) rfl sc__law_told.nd (di_seq (dd_of (vV 2))) (blkOk_by (N := N__law_told) (sc := (defScope s__law_told)) (own := [("p", 5), ("c", 6)]) (by decide +kernel)) (fun _ _ _ _ _ => (dg_tup rfl (dgs_cons (gN 5 sc__law_told.nd) (dgs_cons (gN 6 sc__law_told.nd) dgs_nil)))) (fun _ _ _ _ _ => dts_nil) (fun _ _ _ _ _ => (dd_of (de_bin opd_mul (vB 6) (cC c__law_count hr hg (da_cons (de_arg (vV 5)) (da_cons (de_arg (vV 3)) da_nil)))))) rfl) da_nil))))) da_nil))))))))
    (dss_one (ds_ret (cC c__law_put hr hg (da_cons (de_arg (vV 2)) da_nil))))))
theorem ok_law (z : Zs mg K) (y : SysAt base) {f : Addr} {fd : FuncData} (Fu : Fun K "law" "law" s_law f fd) (c_form_of_table : Cal P w K mg base 5 "form_of_table" ["k", "numbers"] fm_form_of_table) (c_table_of : Cal P w K mg base 5 "table_of" ["form", "k"] fm_table_of) (c__law_of : Cal P w K mg base 2 "_law_of" ["source", "some"] fm__law_of) (c_form_sum : Cal P w K mg base 2 "form_sum" ["a", "b"] fm_form_sum) (c__law_form_worth : Cal P w K mg base 3 "_law_form_worth" ["form", "s"] fm__law_form_worth) (c__law_form : Cal P w K mg base 3 "_law_form" ["source", "k", "most"] fm__law_form) (c_form_size : Cal P w K mg base 1 "form_size" ["form"] fm_form_size) (c_is_form : Cal P w K mg base 4 "is_form" ["value"] fm_is_form) (c__law_told : Cal P w K mg base 3 "_law_told" ["every", "numbers"] fm__law_told) (c__law_little : Cal P w K mg base 2 "_law_little" ["k"] fm__law_little) (c__law_pick : Cal P w K mg base 1 "_law_pick" ["source", "most"] fm__law_pick) (c__law_open_cells : Cal P w K mg base 1 "_law_open_cells" ["script"] fm__law_open_cells) : FnD P w K mg base 6 f fd ["script"] fm_law := by
  refine fnd_ok (N := N_law) (k := 5) Fu sc_law fun cdv A outer s H F l hr hg => ?_
  have hu := units_of hr
  exact (dss_cons (sSet 1 sc_law.nd (de_arg (cC c__law_open_cells hr hg (da_cons (de_arg (vV 0)) da_nil))))
    (dss_cons (ds_for PassesOwn.never rfl (di_range1 (by rfl) z.range (da_cons de_int da_nil)) (gN 2 sc_law.nd) (dss_cons (sSet 3 sc_law.nd (de_ix (de_lst (da_cons (de_arg (cC c__law_pick hr hg (da_cons (de_arg (vV 1)) (da_cons (de_arg de_int) da_nil)))) (da_cons (de_arg (de_bin opd_add de_int (de_callTy calld_int (by rfl) z.int bt_int (da_cons (de_cmp (opd_eq (hu64 hu)) (cC c__law_pick hr hg (da_cons (de_arg (vV 1)) (da_cons (de_arg de_int) da_nil))) de_int (nomark _)) da_nil)))) da_nil))) (vB 2)))
    (dss_cons (sSet 4 sc_law.nd (de_arg (cC c__law_little hr hg (da_cons (de_arg (vV 3)) da_nil))))
    (dss_cons (sSet 5 sc_law.nd (de_callTy calld_tuple (by rfl) z.tuple bt_tuple (da_cons (de_comp (own := [("s", 6)]) rfl sc_law.nd (di_seq (dd_of (vV 4))) (blkOk_by (N := N_law) (sc := (defScope s_law)) (own := [("s", 6)]) (by decide +kernel)) (fun _ _ _ _ _ => (gN 6 sc_law.nd)) (fun _ _ _ _ _ => dts_nil) (fun _ _ _ _ _ => (dd_of (cC c__law_of hr hg (da_cons (de_arg (vV 1)) (da_cons (de_arg (de_lst (da_cons (de_arg de_int) (da_cons (de_arg de_int) (da_cons (de_arg de_int) (da_cons (de_arg (de_un und_neg de_int)) (da_cons (de_arg de_int) (da_cons (de_arg de_int) (da_cons (de_arg (de_un und_neg (de_bin opd_pow de_int de_int))) da_nil))))))))) da_nil))))) rfl) da_nil)))
    (dss_cons (ds_par (i := 7) (j := 8) rfl sc_law.nd rfl rfl (by decide) rfl rfl (da_cons (de_arg (cC c__law_told hr hg (da_cons (de_arg (vV 4)) (da_cons (de_arg (vV 5)) da_nil)))) (da_cons (de_arg (de_repr hg y hu (by rfl) z.repr (dd_of (vV 5)))) da_nil)) (by rfl))
    (dss_cons (sSet 9 sc_law.nd (de_arg (cC c_form_of_table hr hg (da_cons (de_arg (vV 3)) (da_cons (de_arg (de_callTy calld_list (by rfl) z.list bt_list (da_cons (vB 5) da_nil))) da_nil)))))
    (dss_cons (ds_if (DW.dt (dw_or (dt_cmp (opd_ne (hu64 hu)) (de_repr hg y hu (by rfl) z.repr (dd_of (de_lst (da_cons (de_arg (vV 9)) (da_cons (de_arg (cC c_form_of_table hr hg (da_cons (de_arg (vV 3)) (da_cons (de_arg (vV 5)) da_nil)))) da_nil))))) (de_repr hg y hu (by rfl) z.repr (dd_of (de_lst (da_cons (de_arg (vV 7)) (da_cons (de_arg (vV 7)) da_nil))))) (nomark _)) (dw_or1 (dt_cmp opd_isnot (cC c_is_form hr hg (da_cons (de_arg (vV 9)) da_nil)) de_bool (nomark _))))) (dss_one (ds_ret de_bool)) dss_nil)
    (dss_cons (ds_if (DW.dt (dw_or (dt_cmp (opd_ne (hu64 hu)) (de_repr hg y hu (by rfl) z.repr (dd_of (cC c_table_of hr hg (da_cons (de_arg (vV 9)) (da_cons (de_arg (vV 3)) da_nil))))) (de_repr hg y hu (by rfl) z.repr (dd_of (vV 5))) (nomark _)) (dw_or (dt_cmp (opd_gtX (hu64 hu)) (cC c_form_size hr hg (da_cons (de_arg (vV 9)) da_nil)) (vB 3) (nomark _)) (dw_or1 (dt_cmp (opd_ne (hu64 hu)) (de_repr hg y hu (by rfl) z.repr (dd_of (vV 5))) (vB 8) (nomark _)))))) (dss_one (ds_ret de_bool)) dss_nil)
    (dss_cons (ds_if (dt_cmp (opd_ne (hu64 hu)) (de_comp (own := [("s", 6), ("number", 10)]) rfl sc_law.nd (di_zipM (by rfl) z.zip (da_cons (de_arg (vV 4)) (da_cons (de_arg (vV 5)) da_nil))) (blkOk_by (N := N_law) (sc := (defScope s_law)) (own := [("s", 6), ("number", 10)]) (by decide +kernel)) (fun _ _ _ _ _ => (dg_tup rfl (dgs_cons (gN 6 sc_law.nd) (dgs_cons (gN 10 sc_law.nd) dgs_nil)))) (fun _ _ _ _ _ => (dts_one (dt_cmp (opd_ne (hu64 hu)) (cC c__law_form_worth hr hg (da_cons (de_arg (vV 9)) (da_cons (de_arg (vV 6)) da_nil))) (vB 10) (nomark _)))) (fun _ _ _ _ _ => (dd_of (vV 6))) rfl) (de_lst da_nil) (nomark _)) (dss_one (ds_ret de_bool)) dss_nil)
    (dss_cons (sSet 11 sc_law.nd (de_arg (cC c__law_form hr hg (da_cons (de_arg (vV 1)) (da_cons (de_arg (vV 3)) (da_cons (de_arg de_int) da_nil))))))
    (dss_cons (ds_setCF (i := 12) (own := [("s", 6)]) rfl sc_law.nd rfl rfl (by rfl) (di_seq (dd_of (vV 4))) (blkOk_by (N := N_law) (sc := (defScope s_law)) (own := [("s", 6)]) (by decide +kernel)) (fun _ _ _ _ _ => (gN 6 sc_law.nd)) (fun _ _ _ _ _ => dts_nil) (fun _ _ _ _ _ => (dd_of (cC c__law_form_worth hr hg (da_cons (de_arg (vV 11)) (da_cons (de_arg (vV 6)) da_nil))))) rfl)
    (dss_cons (ds_if (DW.dt (dw_or (dt_cmp (opd_ne (hu64 hu)) (de_repr hg y hu (by rfl) z.repr (dd_of (cC c_table_of hr hg (da_cons (de_arg (vV 11)) (da_cons (de_arg (vV 3)) da_nil))))) (de_repr hg y hu (by rfl) z.repr (dd_of (de_callTy calld_tuple (by rfl) z.tuple bt_tuple (da_cons (vB 12) da_nil)))) (nomark _)) (dw_or1 (dt_cmp (opd_ne (hu64 hu)) (de_repr hg y hu (by rfl) z.repr (dd_of (cC c_form_of_table hr hg (da_cons (de_arg (vV 3)) (da_cons (de_arg (vV 12)) da_nil))))) (de_repr hg y hu (by rfl) z.repr (dd_of (vV 11))) (nomark _))))) (dss_one (ds_ret de_bool)) dss_nil)
    (dss_cons (ds_setCF (i := 13) (own := [("x", 14), ("y", 15)]) rfl sc_law.nd rfl rfl (by rfl) (di_zipM (by rfl) z.zip (da_cons (de_arg (vV 5)) (da_cons (de_arg (vV 12)) da_nil))) (blkOk_by (N := N_law) (sc := (defScope s_law)) (own := [("x", 14), ("y", 15)]) (by decide +kernel)) (fun _ _ _ _ _ => (dg_tup rfl (dgs_cons (gN 14 sc_law.nd) (dgs_cons (gN 15 sc_law.nd) dgs_nil)))) (fun _ _ _ _ _ => dts_nil) (fun _ _ _ _ _ => (dd_of (de_bin opd_add (vB 14) (vB 15)))) rfl)
    (dss_cons (ds_if (dt_cmp (opd_ne (hu64 hu)) (de_repr hg y hu (by rfl) z.repr (dd_of (cC c_form_of_table hr hg (da_cons (de_arg (vV 3)) (da_cons (de_arg (vV 13)) da_nil))))) (de_repr hg y hu (by rfl) z.repr (dd_of (cC c_form_sum hr hg (da_cons (de_arg (vV 9)) (da_cons (de_arg (vV 11)) da_nil))))) (nomark _)) (dss_one (ds_ret de_bool)) dss_nil)
    (dss_cons (sSet 16 sc_law.nd (de_arg (cC c__law_of hr hg (da_cons (de_arg (vV 1)) (da_cons (de_arg (vV 4)) da_nil)))))
    (dss_cons (ds_setCF (i := 17) (own := [("s", 6)]) rfl sc_law.nd rfl rfl (by rfl) (di_seq (dd_of (vV 4))) (blkOk_by (N := N_law) (sc := (defScope s_law)) (own := [("s", 6)]) (by decide +kernel)) (fun _ _ _ _ _ => (gN 6 sc_law.nd)) (fun _ _ _ _ _ => (dts_one (dt_cmp (opd_leX (hu64 hu)) (de_callB calld_len (by rfl) z.len bt_len (da_cons (vB 6) da_nil)) (de_callB calld_len (by rfl) z.len bt_len (da_cons (vB 16) da_nil)) (nomark _)))) (fun _ _ _ _ _ => (dd_of (de_callTy calld_int (by rfl) z.int bt_int (da_cons (de_cmp (opd_eq (hu64 hu)) (vB 6) (vB 16) (nomark _)) da_nil)))) rfl)
    (dss_cons (ds_if (dt_cmp (opd_ne (hu64 hu)) (de_repr hg y hu (by rfl) z.repr (dd_of (cC c_table_of hr hg (da_cons (de_arg (de_tup (da_cons (de_arg (de_tup (da_cons (de_arg (vV 16)) (da_cons (de_arg de_int) da_nil)))) da_nil))) (da_cons (de_arg (de_callB calld_len (by rfl) z.len bt_len (da_cons (vB 16) da_nil))) da_nil))))) (de_repr hg y hu (by rfl) z.repr (dd_of (de_callTy calld_tuple (by rfl) z.tuple bt_tuple (da_cons (vB 17) da_nil)))) (nomark _)) (dss_one (ds_ret de_bool)) dss_nil)
    (dss_cons (sSet 18 sc_law.nd (de_arg (de_if (dt_cmp (opd_gtX (hu64 hu)) (vB 3) de_int (nomark _)) (de_lst (da_cons (de_arg (de_ix (vB 5) de_int)) (da_cons (de_arg (de_bin opd_sub (de_ix (vB 5) de_int) (de_ix (vB 5) de_int))) da_nil))) (de_lst (da_cons (de_arg (de_ix (vB 5) de_int)) da_nil)))))
    (dss_one (ds_if (dt_cmp (opd_ne (hu64 hu)) (de_comp (own := [("n", 19)]) rfl sc_law.nd (di_range1 (by rfl) z.range (da_cons (de_callB calld_len (by rfl) z.len bt_len (da_cons (vB 18) da_nil)) da_nil)) (blkOk_by (N := N_law) (sc := (defScope s_law)) (own := [("n", 19)]) (by decide +kernel)) (fun _ _ _ _ _ => (gN 19 sc_law.nd)) (fun _ _ _ _ _ => dts_nil) (fun _ _ _ _ _ => (dd_of (de_getE (hu1 hu) (de_dictT rfl (hu64 hu) (by rfl) z.dict bt_dict (de_callTy calld_list (by rfl) z.list bt_list (da_cons (vB 9) da_nil))) (dd_of (de_tupRg rfl (by rfl) z.tuple (dr_1 (by rfl) z.range (dd_of (vV 19))))) (dd_of de_int)))) rfl) (vB 18) (nomark _)) (dss_one (ds_ret de_bool)) dss_nil))))))))))))))))))))
    (dss_one (ds_ret (de_cmp (opd_eq (hu64 hu)) (cC c_form_of_table hr hg (da_cons (de_arg de_int) (da_cons (de_arg (de_tup (da_cons (de_arg de_int) (da_cons (de_arg de_int) (da_cons (de_arg de_int) (da_cons (de_arg de_int) da_nil)))))) da_nil))) (de_tup (da_cons (de_arg (de_tup (da_cons (de_arg (de_tup (da_cons (de_arg de_int) da_nil))) (da_cons (de_arg de_int) da_nil)))) (da_cons (de_arg (de_tup (da_cons (de_arg (de_tup (da_cons (de_arg de_int) (da_cons (de_arg de_int) da_nil)))) (da_cons (de_arg de_int) da_nil)))) (da_cons (de_arg (de_tup (da_cons (de_arg (de_tup (da_cons (de_arg de_int) (da_cons (de_arg de_int) da_nil)))) (da_cons (de_arg de_int) da_nil)))) da_nil)))) (nomark _))))))
end
theorem all_mk {l : PySem.W.OpenLaw} {w : World} {K : PySem.W.Frag} {h : Heap} {mg : Str → Option Value} {fa f0 f1 f2 f3 f4 f5 f6 f7 f8 f9 f10 f11 f12 f13 f14 f15 f16 f17 f18 f19 f20 f21 f22 f23 f24 f25 f26 f27 f28 f29 : Addr} (X : K.In h) (G : h.Ns mainGlobals mg) (hfa : mg "law" = some (.ref fa))
    {od0 an0 : Option Addr} {sl0 : Array (Option Value)} {oc0 kV0 dc0 pm0 cd0 ct0 : Value}
    (a0 : PySem.W.nsIn K mainGlobals "orders_of" = some (some (.ref f0))) (l0 : K.lookup f0 = some ⟨oc0, od0, .func (PySem.W.fnOf "orders_of" "orders_of" (defArgs s_orders_of) (defBody s_orders_of) (defScope s_orders_of) .none kV0 dc0 pm0 an0 cd0 ct0), sl0⟩) (c0 : PySem.W.codeIn K cd0 "orders_of" = true) (k0 : PySem.W.keepIn K (.ref f0) = true)
    {od1 an1 : Option Addr} {sl1 : Array (Option Value)} {oc1 kV1 dc1 pm1 cd1 ct1 : Value}
    (a1 : PySem.W.nsIn K mainGlobals "is_whole" = some (some (.ref f1))) (l1 : K.lookup f1 = some ⟨oc1, od1, .func (PySem.W.fnOf "is_whole" "is_whole" (defArgs s_is_whole) (defBody s_is_whole) (defScope s_is_whole) .none kV1 dc1 pm1 an1 cd1 ct1), sl1⟩) (c1 : PySem.W.codeIn K cd1 "is_whole" = true) (k1 : PySem.W.keepIn K (.ref f1) = true)
    {od2 an2 : Option Addr} {sl2 : Array (Option Value)} {oc2 kV2 dc2 pm2 cd2 ct2 : Value}
    (a2 : PySem.W.nsIn K mainGlobals "is_order" = some (some (.ref f2))) (l2 : K.lookup f2 = some ⟨oc2, od2, .func (PySem.W.fnOf "is_order" "is_order" (defArgs s_is_order) (defBody s_is_order) (defScope s_is_order) .none kV2 dc2 pm2 an2 cd2 ct2), sl2⟩) (c2 : PySem.W.codeIn K cd2 "is_order" = true) (k2 : PySem.W.keepIn K (.ref f2) = true)
    {od3 an3 : Option Addr} {sl3 : Array (Option Value)} {oc3 kV3 dc3 pm3 cd3 ct3 : Value}
    (a3 : PySem.W.nsIn K mainGlobals "order_at" = some (some (.ref f3))) (l3 : K.lookup f3 = some ⟨oc3, od3, .func (PySem.W.fnOf "order_at" "order_at" (defArgs s_order_at) (defBody s_order_at) (defScope s_order_at) .none kV3 dc3 pm3 an3 cd3 ct3), sl3⟩) (c3 : PySem.W.codeIn K cd3 "order_at" = true) (k3 : PySem.W.keepIn K (.ref f3) = true)
    {od4 an4 : Option Addr} {sl4 : Array (Option Value)} {oc4 kV4 dc4 pm4 cd4 ct4 : Value}
    (a4 : PySem.W.nsIn K mainGlobals "choices_of" = some (some (.ref f4))) (l4 : K.lookup f4 = some ⟨oc4, od4, .func (PySem.W.fnOf "choices_of" "choices_of" (defArgs s_choices_of) (defBody s_choices_of) (defScope s_choices_of) .none kV4 dc4 pm4 an4 cd4 ct4), sl4⟩) (c4 : PySem.W.codeIn K cd4 "choices_of" = true) (k4 : PySem.W.keepIn K (.ref f4) = true)
    {od5 an5 : Option Addr} {sl5 : Array (Option Value)} {oc5 kV5 dc5 pm5 cd5 ct5 : Value}
    (a5 : PySem.W.nsIn K mainGlobals "copies_of" = some (some (.ref f5))) (l5 : K.lookup f5 = some ⟨oc5, od5, .func (PySem.W.fnOf "copies_of" "copies_of" (defArgs s_copies_of) (defBody s_copies_of) (defScope s_copies_of) .none kV5 dc5 pm5 an5 cd5 ct5), sl5⟩) (c5 : PySem.W.codeIn K cd5 "copies_of" = true) (k5 : PySem.W.keepIn K (.ref f5) = true)
    {od6 an6 : Option Addr} {sl6 : Array (Option Value)} {oc6 kV6 dc6 pm6 cd6 ct6 : Value}
    (a6 : PySem.W.nsIn K mainGlobals "count_of" = some (some (.ref f6))) (l6 : K.lookup f6 = some ⟨oc6, od6, .func (PySem.W.fnOf "count_of" "count_of" (defArgs s_count_of) (defBody s_count_of) (defScope s_count_of) .none kV6 dc6 pm6 an6 cd6 ct6), sl6⟩) (c6 : PySem.W.codeIn K cd6 "count_of" = true) (k6 : PySem.W.keepIn K (.ref f6) = true)
    {od7 an7 : Option Addr} {sl7 : Array (Option Value)} {oc7 kV7 dc7 pm7 cd7 ct7 : Value}
    (a7 : PySem.W.nsIn K mainGlobals "little_orders" = some (some (.ref f7))) (l7 : K.lookup f7 = some ⟨oc7, od7, .func (PySem.W.fnOf "little_orders" "little_orders" (defArgs s_little_orders) (defBody s_little_orders) (defScope s_little_orders) .none kV7 dc7 pm7 an7 cd7 ct7), sl7⟩) (c7 : PySem.W.codeIn K cd7 "little_orders" = true) (k7 : PySem.W.keepIn K (.ref f7) = true)
    {od8 an8 : Option Addr} {sl8 : Array (Option Value)} {oc8 kV8 dc8 pm8 cd8 ct8 : Value}
    (a8 : PySem.W.nsIn K mainGlobals "is_number" = some (some (.ref f8))) (l8 : K.lookup f8 = some ⟨oc8, od8, .func (PySem.W.fnOf "is_number" "is_number" (defArgs s_is_number) (defBody s_is_number) (defScope s_is_number) .none kV8 dc8 pm8 an8 cd8 ct8), sl8⟩) (c8 : PySem.W.codeIn K cd8 "is_number" = true) (k8 : PySem.W.keepIn K (.ref f8) = true)
    {od9 an9 : Option Addr} {sl9 : Array (Option Value)} {oc9 kV9 dc9 pm9 cd9 ct9 : Value}
    (a9 : PySem.W.nsIn K mainGlobals "is_pair" = some (some (.ref f9))) (l9 : K.lookup f9 = some ⟨oc9, od9, .func (PySem.W.fnOf "is_pair" "is_pair" (defArgs s_is_pair) (defBody s_is_pair) (defScope s_is_pair) .none kV9 dc9 pm9 an9 cd9 ct9), sl9⟩) (c9 : PySem.W.codeIn K cd9 "is_pair" = true) (k9 : PySem.W.keepIn K (.ref f9) = true)
    {od10 an10 : Option Addr} {sl10 : Array (Option Value)} {oc10 kV10 dc10 pm10 cd10 ct10 : Value}
    (a10 : PySem.W.nsIn K mainGlobals "is_form" = some (some (.ref f10))) (l10 : K.lookup f10 = some ⟨oc10, od10, .func (PySem.W.fnOf "is_form" "is_form" (defArgs s_is_form) (defBody s_is_form) (defScope s_is_form) .none kV10 dc10 pm10 an10 cd10 ct10), sl10⟩) (c10 : PySem.W.codeIn K cd10 "is_form" = true) (k10 : PySem.W.keepIn K (.ref f10) = true)
    {od11 an11 : Option Addr} {sl11 : Array (Option Value)} {oc11 kV11 dc11 pm11 cd11 ct11 : Value}
    (a11 : PySem.W.nsIn K mainGlobals "form_of_pairs" = some (some (.ref f11))) (l11 : K.lookup f11 = some ⟨oc11, od11, .func (PySem.W.fnOf "form_of_pairs" "form_of_pairs" (defArgs s_form_of_pairs) (defBody s_form_of_pairs) (defScope s_form_of_pairs) .none kV11 dc11 pm11 an11 cd11 ct11), sl11⟩) (c11 : PySem.W.codeIn K cd11 "form_of_pairs" = true) (k11 : PySem.W.keepIn K (.ref f11) = true)
    {od12 an12 : Option Addr} {sl12 : Array (Option Value)} {oc12 kV12 dc12 pm12 cd12 ct12 : Value}
    (a12 : PySem.W.nsIn K mainGlobals "form_sum" = some (some (.ref f12))) (l12 : K.lookup f12 = some ⟨oc12, od12, .func (PySem.W.fnOf "form_sum" "form_sum" (defArgs s_form_sum) (defBody s_form_sum) (defScope s_form_sum) .none kV12 dc12 pm12 an12 cd12 ct12), sl12⟩) (c12 : PySem.W.codeIn K cd12 "form_sum" = true) (k12 : PySem.W.keepIn K (.ref f12) = true)
    {od13 an13 : Option Addr} {sl13 : Array (Option Value)} {oc13 kV13 dc13 pm13 cd13 ct13 : Value}
    (a13 : PySem.W.nsIn K mainGlobals "form_size" = some (some (.ref f13))) (l13 : K.lookup f13 = some ⟨oc13, od13, .func (PySem.W.fnOf "form_size" "form_size" (defArgs s_form_size) (defBody s_form_size) (defScope s_form_size) .none kV13 dc13 pm13 an13 cd13 ct13), sl13⟩) (c13 : PySem.W.codeIn K cd13 "form_size" = true) (k13 : PySem.W.keepIn K (.ref f13) = true)
    {od14 an14 : Option Addr} {sl14 : Array (Option Value)} {oc14 kV14 dc14 pm14 cd14 ct14 : Value}
    (a14 : PySem.W.nsIn K mainGlobals "form_worth" = some (some (.ref f14))) (l14 : K.lookup f14 = some ⟨oc14, od14, .func (PySem.W.fnOf "form_worth" "form_worth" (defArgs s_form_worth) (defBody s_form_worth) (defScope s_form_worth) .none kV14 dc14 pm14 an14 cd14 ct14), sl14⟩) (c14 : PySem.W.codeIn K cd14 "form_worth" = true) (k14 : PySem.W.keepIn K (.ref f14) = true)
    {od15 an15 : Option Addr} {sl15 : Array (Option Value)} {oc15 kV15 dc15 pm15 cd15 ct15 : Value}
    (a15 : PySem.W.nsIn K mainGlobals "table_of" = some (some (.ref f15))) (l15 : K.lookup f15 = some ⟨oc15, od15, .func (PySem.W.fnOf "table_of" "table_of" (defArgs s_table_of) (defBody s_table_of) (defScope s_table_of) .none kV15 dc15 pm15 an15 cd15 ct15), sl15⟩) (c15 : PySem.W.codeIn K cd15 "table_of" = true) (k15 : PySem.W.keepIn K (.ref f15) = true)
    {od16 an16 : Option Addr} {sl16 : Array (Option Value)} {oc16 kV16 dc16 pm16 cd16 ct16 : Value}
    (a16 : PySem.W.nsIn K mainGlobals "form_of_table" = some (some (.ref f16))) (l16 : K.lookup f16 = some ⟨oc16, od16, .func (PySem.W.fnOf "form_of_table" "form_of_table" (defArgs s_form_of_table) (defBody s_form_of_table) (defScope s_form_of_table) .none kV16 dc16 pm16 an16 cd16 ct16), sl16⟩) (c16 : PySem.W.codeIn K cd16 "form_of_table" = true) (k16 : PySem.W.keepIn K (.ref f16) = true)
    {od17 an17 : Option Addr} {sl17 : Array (Option Value)} {oc17 kV17 dc17 pm17 cd17 ct17 : Value}
    (a17 : PySem.W.nsIn K mainGlobals "_law_open_cells" = some (some (.ref f17))) (l17 : K.lookup f17 = some ⟨oc17, od17, .func (PySem.W.fnOf "_law_open_cells" "_law_open_cells" (defArgs s__law_open_cells) (defBody s__law_open_cells) (defScope s__law_open_cells) .none kV17 dc17 pm17 an17 cd17 ct17), sl17⟩) (c17 : PySem.W.codeIn K cd17 "_law_open_cells" = true) (k17 : PySem.W.keepIn K (.ref f17) = true)
    {od18 an18 : Option Addr} {sl18 : Array (Option Value)} {oc18 kV18 dc18 pm18 cd18 ct18 : Value}
    (a18 : PySem.W.nsIn K mainGlobals "_law_pick" = some (some (.ref f18))) (l18 : K.lookup f18 = some ⟨oc18, od18, .func (PySem.W.fnOf "_law_pick" "_law_pick" (defArgs s__law_pick) (defBody s__law_pick) (defScope s__law_pick) .none kV18 dc18 pm18 an18 cd18 ct18), sl18⟩) (c18 : PySem.W.codeIn K cd18 "_law_pick" = true) (k18 : PySem.W.keepIn K (.ref f18) = true)
    {od19 an19 : Option Addr} {sl19 : Array (Option Value)} {oc19 kV19 dc19 pm19 cd19 ct19 : Value}
    (a19 : PySem.W.nsIn K mainGlobals "_law_of" = some (some (.ref f19))) (l19 : K.lookup f19 = some ⟨oc19, od19, .func (PySem.W.fnOf "_law_of" "_law_of" (defArgs s__law_of) (defBody s__law_of) (defScope s__law_of) .none kV19 dc19 pm19 an19 cd19 ct19), sl19⟩) (c19 : PySem.W.codeIn K cd19 "_law_of" = true) (k19 : PySem.W.keepIn K (.ref f19) = true)
    {od20 an20 : Option Addr} {sl20 : Array (Option Value)} {oc20 kV20 dc20 pm20 cd20 ct20 : Value}
    (a20 : PySem.W.nsIn K mainGlobals "_law_orders" = some (some (.ref f20))) (l20 : K.lookup f20 = some ⟨oc20, od20, .func (PySem.W.fnOf "_law_orders" "_law_orders" (defArgs s__law_orders) (defBody s__law_orders) (defScope s__law_orders) .none kV20 dc20 pm20 an20 cd20 ct20), sl20⟩) (c20 : PySem.W.codeIn K cd20 "_law_orders" = true) (k20 : PySem.W.keepIn K (.ref f20) = true)
    {od21 an21 : Option Addr} {sl21 : Array (Option Value)} {oc21 kV21 dc21 pm21 cd21 ct21 : Value}
    (a21 : PySem.W.nsIn K mainGlobals "_law_little" = some (some (.ref f21))) (l21 : K.lookup f21 = some ⟨oc21, od21, .func (PySem.W.fnOf "_law_little" "_law_little" (defArgs s__law_little) (defBody s__law_little) (defScope s__law_little) .none kV21 dc21 pm21 an21 cd21 ct21), sl21⟩) (c21 : PySem.W.codeIn K cd21 "_law_little" = true) (k21 : PySem.W.keepIn K (.ref f21) = true)
    {od22 an22 : Option Addr} {sl22 : Array (Option Value)} {oc22 kV22 dc22 pm22 cd22 ct22 : Value}
    (a22 : PySem.W.nsIn K mainGlobals "_law_chosen" = some (some (.ref f22))) (l22 : K.lookup f22 = some ⟨oc22, od22, .func (PySem.W.fnOf "_law_chosen" "_law_chosen" (defArgs s__law_chosen) (defBody s__law_chosen) (defScope s__law_chosen) .none kV22 dc22 pm22 an22 cd22 ct22), sl22⟩) (c22 : PySem.W.codeIn K cd22 "_law_chosen" = true) (k22 : PySem.W.keepIn K (.ref f22) = true)
    {od23 an23 : Option Addr} {sl23 : Array (Option Value)} {oc23 kV23 dc23 pm23 cd23 ct23 : Value}
    (a23 : PySem.W.nsIn K mainGlobals "_law_order_at" = some (some (.ref f23))) (l23 : K.lookup f23 = some ⟨oc23, od23, .func (PySem.W.fnOf "_law_order_at" "_law_order_at" (defArgs s__law_order_at) (defBody s__law_order_at) (defScope s__law_order_at) .none kV23 dc23 pm23 an23 cd23 ct23), sl23⟩) (c23 : PySem.W.codeIn K cd23 "_law_order_at" = true) (k23 : PySem.W.keepIn K (.ref f23) = true)
    {od24 an24 : Option Addr} {sl24 : Array (Option Value)} {oc24 kV24 dc24 pm24 cd24 ct24 : Value}
    (a24 : PySem.W.nsIn K mainGlobals "_law_count" = some (some (.ref f24))) (l24 : K.lookup f24 = some ⟨oc24, od24, .func (PySem.W.fnOf "_law_count" "_law_count" (defArgs s__law_count) (defBody s__law_count) (defScope s__law_count) .none kV24 dc24 pm24 an24 cd24 ct24), sl24⟩) (c24 : PySem.W.codeIn K cd24 "_law_count" = true) (k24 : PySem.W.keepIn K (.ref f24) = true)
    {od25 an25 : Option Addr} {sl25 : Array (Option Value)} {oc25 kV25 dc25 pm25 cd25 ct25 : Value}
    (a25 : PySem.W.nsIn K mainGlobals "_law_form_worth" = some (some (.ref f25))) (l25 : K.lookup f25 = some ⟨oc25, od25, .func (PySem.W.fnOf "_law_form_worth" "_law_form_worth" (defArgs s__law_form_worth) (defBody s__law_form_worth) (defScope s__law_form_worth) .none kV25 dc25 pm25 an25 cd25 ct25), sl25⟩) (c25 : PySem.W.codeIn K cd25 "_law_form_worth" = true) (k25 : PySem.W.keepIn K (.ref f25) = true)
    {od26 an26 : Option Addr} {sl26 : Array (Option Value)} {oc26 kV26 dc26 pm26 cd26 ct26 : Value}
    (a26 : PySem.W.nsIn K mainGlobals "_law_put" = some (some (.ref f26))) (l26 : K.lookup f26 = some ⟨oc26, od26, .func (PySem.W.fnOf "_law_put" "_law_put" (defArgs s__law_put) (defBody s__law_put) (defScope s__law_put) .none kV26 dc26 pm26 an26 cd26 ct26), sl26⟩) (c26 : PySem.W.codeIn K cd26 "_law_put" = true) (k26 : PySem.W.keepIn K (.ref f26) = true)
    {od27 an27 : Option Addr} {sl27 : Array (Option Value)} {oc27 kV27 dc27 pm27 cd27 ct27 : Value}
    (a27 : PySem.W.nsIn K mainGlobals "_law_form" = some (some (.ref f27))) (l27 : K.lookup f27 = some ⟨oc27, od27, .func (PySem.W.fnOf "_law_form" "_law_form" (defArgs s__law_form) (defBody s__law_form) (defScope s__law_form) .none kV27 dc27 pm27 an27 cd27 ct27), sl27⟩) (c27 : PySem.W.codeIn K cd27 "_law_form" = true) (k27 : PySem.W.keepIn K (.ref f27) = true)
    {od28 an28 : Option Addr} {sl28 : Array (Option Value)} {oc28 kV28 dc28 pm28 cd28 ct28 : Value}
    (a28 : PySem.W.nsIn K mainGlobals "_law_told" = some (some (.ref f28))) (l28 : K.lookup f28 = some ⟨oc28, od28, .func (PySem.W.fnOf "_law_told" "_law_told" (defArgs s__law_told) (defBody s__law_told) (defScope s__law_told) .none kV28 dc28 pm28 an28 cd28 ct28), sl28⟩) (c28 : PySem.W.codeIn K cd28 "_law_told" = true) (k28 : PySem.W.keepIn K (.ref f28) = true)
    {od29 an29 : Option Addr} {sl29 : Array (Option Value)} {oc29 kV29 dc29 pm29 cd29 ct29 : Value}
    (a29 : PySem.W.nsIn K mainGlobals "law" = some (some (.ref f29))) (l29 : K.lookup f29 = some ⟨oc29, od29, .func (PySem.W.fnOf "law" "law" (defArgs s_law) (defBody s_law) (defScope s_law) .none kV29 dc29 pm29 an29 cd29 ct29), sl29⟩) (c29 : PySem.W.codeIn K cd29 "law" = true) (k29 : PySem.W.keepIn K (.ref f29) = true)
    (z0 : PySem.W.nsIn K mainGlobals "abs" = some none)
    (z1 : PySem.W.nsIn K mainGlobals "all" = some none)
    (z2 : PySem.W.nsIn K mainGlobals "bool" = some none)
    (z3 : PySem.W.nsIn K mainGlobals "dict" = some none)
    (z4 : PySem.W.nsIn K mainGlobals "int" = some none)
    (z5 : PySem.W.nsIn K mainGlobals "isinstance" = some none)
    (z6 : PySem.W.nsIn K mainGlobals "len" = some none)
    (z7 : PySem.W.nsIn K mainGlobals "list" = some none)
    (z8 : PySem.W.nsIn K mainGlobals "max" = some none)
    (z9 : PySem.W.nsIn K mainGlobals "range" = some none)
    (z10 : PySem.W.nsIn K mainGlobals "repr" = some none)
    (z11 : PySem.W.nsIn K mainGlobals "sorted" = some none)
    (z12 : PySem.W.nsIn K mainGlobals "sum" = some none)
    (z13 : PySem.W.nsIn K mainGlobals "tuple" = some none)
    (z14 : PySem.W.nsIn K mainGlobals "zip" = some none)
    {kt0 : Nat} (q0_ : PySem.W.nsIn K mainGlobals "MOST_THINGS_formkit" = some (some (.int 6 kt0)))
    {kt1 : Nat} (q1_ : PySem.W.nsIn K mainGlobals "MOST_THINGS_orderkit" = some (some (.int 6 kt1)))
    : ∃ fd : FuncData, (∀ (s : Shared) (v : Value), BindsTo s fd ⟨[v], []⟩ [("script", v)]) ∧ ∀ base : Heap, K.In base → base.Ns mainGlobals mg → SysAt base → FnD l.prog w K mg base 6 fa fd ["script"] fm_law := by
  have e := hfa.symm.trans (PySem.W.mg_of X G a29)
  cases e
  have z : Zs mg K := ⟨PySem.W.mg_none_of X G z0, PySem.W.mg_none_of X G z1, PySem.W.mg_none_of X G z2, PySem.W.mg_none_of X G z3, PySem.W.mg_none_of X G z4, PySem.W.mg_none_of X G z5, PySem.W.mg_none_of X G z6, PySem.W.mg_none_of X G z7, PySem.W.mg_none_of X G z8, PySem.W.mg_none_of X G z9, PySem.W.mg_none_of X G z10, PySem.W.mg_none_of X G z11, PySem.W.mg_none_of X G z12, PySem.W.mg_none_of X G z13, PySem.W.mg_none_of X G z14, konst_int (PySem.W.mg_of X G q0_), konst_int (PySem.W.mg_of X G q1_)⟩
  have F0 := fun_mk (st := s_orders_of) l0 c0 k0
  have b0 := F0.binds (ps := ["n"]) fun _ _ _ _ _ _ us hl => match us, hl with | [_], _ => rfl
  have F1 := fun_mk (st := s_is_whole) l1 c1 k1
  have b1 := F1.binds (ps := ["value"]) fun _ _ _ _ _ _ us hl => match us, hl with | [_], _ => rfl
  have F2 := fun_mk (st := s_is_order) l2 c2 k2
  have b2 := F2.binds (ps := ["value"]) fun _ _ _ _ _ _ us hl => match us, hl with | [_], _ => rfl
  have F3 := fun_mk (st := s_order_at) l3 c3 k3
  have b3 := F3.binds (ps := ["order", "places"]) fun _ _ _ _ _ _ us hl => match us, hl with | [_, _], _ => rfl
  have F4 := fun_mk (st := s_choices_of) l4 c4 k4
  have b4 := F4.binds (ps := ["things", "k"]) fun _ _ _ _ _ _ us hl => match us, hl with | [_, _], _ => rfl
  have F5 := fun_mk (st := s_copies_of) l5 c5 k5
  have b5 := F5.binds (ps := ["p", "s"]) fun _ _ _ _ _ _ us hl => match us, hl with | [_, _], _ => rfl
  have F6 := fun_mk (st := s_count_of) l6 c6 k6
  have b6 := F6.binds (ps := ["p", "s"]) fun _ _ _ _ _ _ us hl => match us, hl with | [_, _], _ => rfl
  have F7 := fun_mk (st := s_little_orders) l7 c7 k7
  have b7 := F7.binds (ps := ["k"]) fun _ _ _ _ _ _ us hl => match us, hl with | [_], _ => rfl
  have F8 := fun_mk (st := s_is_number) l8 c8 k8
  have b8 := F8.binds (ps := ["value"]) fun _ _ _ _ _ _ us hl => match us, hl with | [_], _ => rfl
  have F9 := fun_mk (st := s_is_pair) l9 c9 k9
  have b9 := F9.binds (ps := ["value"]) fun _ _ _ _ _ _ us hl => match us, hl with | [_], _ => rfl
  have F10 := fun_mk (st := s_is_form) l10 c10 k10
  have b10 := F10.binds (ps := ["value"]) fun _ _ _ _ _ _ us hl => match us, hl with | [_], _ => rfl
  have F11 := fun_mk (st := s_form_of_pairs) l11 c11 k11
  have b11 := F11.binds (ps := ["pairs"]) fun _ _ _ _ _ _ us hl => match us, hl with | [_], _ => rfl
  have F12 := fun_mk (st := s_form_sum) l12 c12 k12
  have b12 := F12.binds (ps := ["a", "b"]) fun _ _ _ _ _ _ us hl => match us, hl with | [_, _], _ => rfl
  have F13 := fun_mk (st := s_form_size) l13 c13 k13
  have b13 := F13.binds (ps := ["form"]) fun _ _ _ _ _ _ us hl => match us, hl with | [_], _ => rfl
  have F14 := fun_mk (st := s_form_worth) l14 c14 k14
  have b14 := F14.binds (ps := ["form", "s"]) fun _ _ _ _ _ _ us hl => match us, hl with | [_, _], _ => rfl
  have F15 := fun_mk (st := s_table_of) l15 c15 k15
  have b15 := F15.binds (ps := ["form", "k"]) fun _ _ _ _ _ _ us hl => match us, hl with | [_, _], _ => rfl
  have F16 := fun_mk (st := s_form_of_table) l16 c16 k16
  have b16 := F16.binds (ps := ["k", "numbers"]) fun _ _ _ _ _ _ us hl => match us, hl with | [_, _], _ => rfl
  have F17 := fun_mk (st := s__law_open_cells) l17 c17 k17
  have b17 := F17.binds (ps := ["script"]) fun _ _ _ _ _ _ us hl => match us, hl with | [_], _ => rfl
  have F18 := fun_mk (st := s__law_pick) l18 c18 k18
  have b18 := F18.binds (ps := ["source", "most"]) fun _ _ _ _ _ _ us hl => match us, hl with | [_, _], _ => rfl
  have F19 := fun_mk (st := s__law_of) l19 c19 k19
  have b19 := F19.binds (ps := ["source", "some"]) fun _ _ _ _ _ _ us hl => match us, hl with | [_, _], _ => rfl
  have F20 := fun_mk (st := s__law_orders) l20 c20 k20
  have b20 := F20.binds (ps := ["n"]) fun _ _ _ _ _ _ us hl => match us, hl with | [_], _ => rfl
  have F21 := fun_mk (st := s__law_little) l21 c21 k21
  have b21 := F21.binds (ps := ["k"]) fun _ _ _ _ _ _ us hl => match us, hl with | [_], _ => rfl
  have F22 := fun_mk (st := s__law_chosen) l22 c22 k22
  have b22 := F22.binds (ps := ["n", "k"]) fun _ _ _ _ _ _ us hl => match us, hl with | [_, _], _ => rfl
  have F23 := fun_mk (st := s__law_order_at) l23 c23 k23
  have b23 := F23.binds (ps := ["order", "places"]) fun _ _ _ _ _ _ us hl => match us, hl with | [_, _], _ => rfl
  have F24 := fun_mk (st := s__law_count) l24 c24 k24
  have b24 := F24.binds (ps := ["p", "s"]) fun _ _ _ _ _ _ us hl => match us, hl with | [_, _], _ => rfl
  have F25 := fun_mk (st := s__law_form_worth) l25 c25 k25
  have b25 := F25.binds (ps := ["form", "s"]) fun _ _ _ _ _ _ us hl => match us, hl with | [_, _], _ => rfl
  have F26 := fun_mk (st := s__law_put) l26 c26 k26
  have b26 := F26.binds (ps := ["pairs"]) fun _ _ _ _ _ _ us hl => match us, hl with | [_], _ => rfl
  have F27 := fun_mk (st := s__law_form) l27 c27 k27
  have b27 := F27.binds (ps := ["source", "k", "most"]) fun _ _ _ _ _ _ us hl => match us, hl with | [_, _, _], _ => rfl
  have F28 := fun_mk (st := s__law_told) l28 c28 k28
  have b28 := F28.binds (ps := ["every", "numbers"]) fun _ _ _ _ _ _ us hl => match us, hl with | [_, _], _ => rfl
  have F29 := fun_mk (st := s_law) l29 c29 k29
  refine ⟨PySem.W.fnOf "law" "law" (defArgs s_law) (defBody s_law) (defScope s_law) .none kV29 dc29 pm29 an29 cd29 ct29, fun s v => .of_eq rfl, fun base _ _ y => ?_⟩
  have c_orders_of := cal_of (P := l.prog) (w := w) (base := base) F0 (PySem.W.mg_of X G a0) b0 (ok_orders_of z y F0 )
  have c_is_whole := cal_of (P := l.prog) (w := w) (base := base) F1 (PySem.W.mg_of X G a1) b1 (ok_is_whole z y F1 )
  have c_is_order := cal_of (P := l.prog) (w := w) (base := base) F2 (PySem.W.mg_of X G a2) b2 (ok_is_order z y F2 c_is_whole)
  have c_order_at := cal_of (P := l.prog) (w := w) (base := base) F3 (PySem.W.mg_of X G a3) b3 (ok_order_at z y F3 )
  have c_choices_of := cal_of (P := l.prog) (w := w) (base := base) F4 (PySem.W.mg_of X G a4) b4 (ok_choices_of z y F4 )
  have c_copies_of := cal_of (P := l.prog) (w := w) (base := base) F5 (PySem.W.mg_of X G a5) b5 (ok_copies_of z y F5 c_choices_of c_order_at)
  have c_count_of := cal_of (P := l.prog) (w := w) (base := base) F6 (PySem.W.mg_of X G a6) b6 (ok_count_of z y F6 c_copies_of)
  have c_little_orders := cal_of (P := l.prog) (w := w) (base := base) F7 (PySem.W.mg_of X G a7) b7 (ok_little_orders z y F7 c_orders_of)
  have c_is_number := cal_of (P := l.prog) (w := w) (base := base) F8 (PySem.W.mg_of X G a8) b8 (ok_is_number z y F8 )
  have c_is_pair := cal_of (P := l.prog) (w := w) (base := base) F9 (PySem.W.mg_of X G a9) b9 (ok_is_pair z y F9 c_is_order c_is_number)
  have c_is_form := cal_of (P := l.prog) (w := w) (base := base) F10 (PySem.W.mg_of X G a10) b10 (ok_is_form z y F10 c_is_pair)
  have c_form_of_pairs := cal_of (P := l.prog) (w := w) (base := base) F11 (PySem.W.mg_of X G a11) b11 (ok_form_of_pairs z y F11 )
  have c_form_sum := cal_of (P := l.prog) (w := w) (base := base) F12 (PySem.W.mg_of X G a12) b12 (ok_form_sum z y F12 c_form_of_pairs)
  have c_form_size := cal_of (P := l.prog) (w := w) (base := base) F13 (PySem.W.mg_of X G a13) b13 (ok_form_size z y F13 )
  have c_form_worth := cal_of (P := l.prog) (w := w) (base := base) F14 (PySem.W.mg_of X G a14) b14 (ok_form_worth z y F14 c_count_of)
  have c_table_of := cal_of (P := l.prog) (w := w) (base := base) F15 (PySem.W.mg_of X G a15) b15 (ok_table_of z y F15 c_little_orders c_form_worth)
  have c_form_of_table := cal_of (P := l.prog) (w := w) (base := base) F16 (PySem.W.mg_of X G a16) b16 (ok_form_of_table z y F16 c_form_of_pairs c_little_orders c_form_worth)
  have c__law_open_cells := cal_of (P := l.prog) (w := w) (base := base) F17 (PySem.W.mg_of X G a17) b17 (ok__law_open_cells z y F17 )
  have c__law_pick := cal_of (P := l.prog) (w := w) (base := base) F18 (PySem.W.mg_of X G a18) b18 (ok__law_pick z y F18 )
  have c__law_of := cal_of (P := l.prog) (w := w) (base := base) F19 (PySem.W.mg_of X G a19) b19 (ok__law_of z y F19 c__law_pick)
  have c__law_orders := cal_of (P := l.prog) (w := w) (base := base) F20 (PySem.W.mg_of X G a20) b20 (ok__law_orders z y F20 )
  have c__law_little := cal_of (P := l.prog) (w := w) (base := base) F21 (PySem.W.mg_of X G a21) b21 (ok__law_little z y F21 c__law_orders)
  have c__law_chosen := cal_of (P := l.prog) (w := w) (base := base) F22 (PySem.W.mg_of X G a22) b22 (ok__law_chosen z y F22 )
  have c__law_order_at := cal_of (P := l.prog) (w := w) (base := base) F23 (PySem.W.mg_of X G a23) b23 (ok__law_order_at z y F23 )
  have c__law_count := cal_of (P := l.prog) (w := w) (base := base) F24 (PySem.W.mg_of X G a24) b24 (ok__law_count z y F24 c__law_chosen c__law_order_at)
  have c__law_form_worth := cal_of (P := l.prog) (w := w) (base := base) F25 (PySem.W.mg_of X G a25) b25 (ok__law_form_worth z y F25 c__law_count)
  have c__law_put := cal_of (P := l.prog) (w := w) (base := base) F26 (PySem.W.mg_of X G a26) b26 (ok__law_put z y F26 )
  have c__law_form := cal_of (P := l.prog) (w := w) (base := base) F27 (PySem.W.mg_of X G a27) b27 (ok__law_form z y F27 c__law_put c__law_pick c__law_of c__law_little)
  have c__law_told := cal_of (P := l.prog) (w := w) (base := base) F28 (PySem.W.mg_of X G a28) b28 (ok__law_told z y F28 c__law_put c__law_count)
  exact ok_law z y F29 c_form_of_table c_table_of c__law_of c_form_sum c__law_form_worth c__law_form c_form_size c_is_form c__law_told c__law_little c__law_pick c__law_open_cells
end LGk30
namespace LGk30
open PySem L2 DL
def tlb_orders_of_1 (p0 : PyData) (v : PyData) (q : PyData) : S (PyData) :=
  (((sComp un1 (sRange1 (pure p0)) (fun q3 => (sBool (sBin (pyIn true) (pure q3) (pure q)))) (fun q3 => (sTup (sStar (pure q) (sCons (pure q3) sNil))))) >>= fun y4 => extS v y4) >>= fun v5 => pure v5)
def tlb_orders_of_2 (p0 : PyData) (v : PyData) (q : PyData) : S (PyData) :=
  ((sLst sNil) >>= fun v2 => (((sItems (pure v)) >>= fun xs_ => foldS (fun w_ x_ => S.opt (un1 x_) >>= (tlb_orders_of_1 p0) w_) xs_ v2) >>= fun v8 => ((sCallB pyListOf (sCons (pure v8) sNil)) >>= fun v9 => pure v9)))
def t_orders_of (x0 : PyData) : S PyData :=
  (sIf (sBool (sBin pyGt (pure x0) (pure (.int 6)))) S.fail ((sLst (sCons (sTup sNil) sNil)) >>= fun v1 => (((sRange1 (pure x0)) >>= fun xs_ => foldS (fun w_ x_ => S.opt (un1 x_) >>= (tlb_orders_of_2 x0) w_) xs_ v1) >>= fun v12 => (sCallB pyTupOf (sCons (pure v12) sNil)))))
theorem tf_orders_of : ∀ x0 : PyData, FnT fm_orders_of [.d x0] (t_orders_of x0) := fun x0 => fn_ok (t := [.d x0, .jk, .jk, .jk, .jk, .jk])
  (tr_if1 (tt_bool (tVA (te_bin (tVA (tHD (vdB rfl))) (tVA (tHD te_k))))) tr_bad (tr_seq (TF.to (tb := fun (v1 : PyData) => [.d x0, .d v1, .jk, .jk, .jk, .jk]) (tf_setD (te_arg (tFR (te_lst (ta_cons (te_arg (tHD (te_tup ta_nil))) ta_nil))))) (fun _ => rfl)) fun v1 => (tr_seq (TF.to (tb := fun (v12 : PyData) => [.d x0, .d v12, .jk, .any, .jk, .jk]) (tf_for (n := 6) (tl := (fun (z_ : PyData) => [.d x0, .d z_, .jk, .any, .jk, .jk])) v1 (ti_range1 (tVA (tHD (vdB rfl)))) (LE.cons SS.lr (LE.cons SS.lr (LE.cons SS.lr (LE.cons SS.la (LE.cons SS.lr (LE.cons SS.lr LE.nil)))))) (fun _ => rfl) (pat1 (i := 2) (n := 6) (by decide)) (fun v2 q3 => (tf_seq (TF.to (tb := fun (v4 : PyData) => [.d x0, .d v2, .d q3, .ow v4, .jk, .jk]) (tf_setF (te_lst ta_nil)) (fun _ => rfl)) fun v4 => (tf_seq (TF.to (tb := fun (v10 : PyData) => [.d x0, .d v2, .d q3, .ow v10, .jk, .jk]) (tf_for (n := 6) (tl := (fun (z_ : PyData) => [.d x0, .d v2, .d q3, .ow z_, .jk, .jk])) v4 (ti_items (td_frz (tHD (vd rfl)))) (LE.cons SS.lr (LE.cons SS.lr (LE.cons SS.lr (LE.cons SS.lr (LE.cons SS.lr (LE.cons SS.lr LE.nil)))))) (fun _ => rfl) (pat1 (i := 4) (n := 6) (by decide)) (fun v5 q6 => (tf_weak (fun (v9 : PyData) => v9) (tf_extend rfl (tVA (tFR (te_comp (ti_range1 (tVA (tHD (vdB rfl)))) rfl (pat1 (i := 5) (n := 6) (by decide)) (fun q7 => (tt_bool (tVA (te_bin (tVA (tHD (vdB rfl))) (tVA (tHD (vdB rfl))))))) (fun q7 => (td_frz (tHD (te_tup (ta_star (tVA (tHD (vdB rfl))) (ta_cons (te_arg (tHD (vd rfl))) ta_nil)))))) (fun q7 => (LE.cons SS.lr (LE.cons SS.lr (LE.cons SS.lr (LE.cons SS.lr (LE.cons SS.lr (LE.cons SS.lr LE.nil))))))) (fun q7 => (LE.cons SS.lr (LE.cons SS.lr (LE.cons SS.lr (LE.cons SS.lr (LE.cons SS.lr (LE.cons SS.lr LE.nil)))))))))) rfl) fun v9 => (LE.cons SS.lr (LE.cons SS.lr (LE.cons SS.lr (LE.cons SS.lr (LE.cons SS.ldj (LE.cons SS.lr LE.nil))))))))) (fun _ => rfl)) fun v10 => (tf_weak (fun (v11 : PyData) => v11) (tf_setD (te_arg (tFR (te_callBN (tb_cons (voB rfl) tb_nil))))) fun v11 => (LE.cons SS.lr (LE.cons SS.lr (LE.cons SS.ldj (LE.cons SS.la (LE.cons SS.lr (LE.cons SS.lr LE.nil))))))))))) (fun _ => rfl)) fun v12 => (tr_ret (tFR (te_callBN (tb_cons (tVA (tHD (vdB rfl))) tb_nil)))))))
  (Fits.cons SS.okD (Fits.cons SS.okU (Fits.cons SS.okU (Fits.cons SS.okU (Fits.cons SS.okU (Fits.cons SS.okU Fits.nil))))))
def t_is_whole (x0 : PyData) : S PyData :=
  (sAndV (sIsi "int" (pure x0)) (sNotV (sIsi "bool" (pure x0))))
theorem tf_is_whole : ∀ x0 : PyData, FnT fm_is_whole [.d x0] (t_is_whole x0) := fun x0 => fn_ok (t := [.d x0])
  (tr_ret (te_andV (tVA (tHD (te_isi (tVA (tHD (vdB rfl)))))) (tHD (te_notV (tVA (tHD (te_isi (tVA (tHD (vdB rfl))))))))))
  (Fits.cons SS.okD Fits.nil)
def t_is_order (x0 : PyData) : S PyData :=
  (sIf (sOrT (sNotT (sBool (sIsi "tuple" (pure x0)))) (sNotT (sBool (sCallB pyAll (sCons (sCompA un1 (sItems (pure x0)) (fun q1 => ((pure q1) >>= fun y2 => t_is_whole y2))) sNil))))) (pure (.bool false)) (sBin pyEq (sCallB pySorted (sCons (pure x0) sNil)) (sRgL .list (sRg1 (sCallB DL.pyLen (sCons (pure x0) sNil))))))
theorem tf_is_order : ∀ x0 : PyData, FnT fm_is_order [.d x0] (t_is_order x0) := fun x0 => fn_ok (t := [.d x0, .jk])
  (tr_if1 (tt_or (tt_not (tt_bool (tVA (tHD (te_isi (tVA (tHD (vdB rfl)))))))) (tt_not (tt_bool (tVA (tFR (te_callBN (tb_cons (tVA (tFR (te_compA (ti_items (td_frz (tHD (vd rfl)))) rfl (pat1 (i := 1) (n := 2) (by decide)) (fun q1 => (td_frz (te_c1 tf_is_whole (te_arg (tHD (vd rfl)))))) (fun q1 => (LE.cons SS.lr (LE.cons SS.lr LE.nil))) (fun q1 => (LE.cons SS.lr (LE.cons SS.lr LE.nil)))))) tb_nil))))))) (tr_ret (tHD te_k)) (tr_ret (te_bin (tVA (tFR (te_callBN (tb_cons (tVA (tHD (vdB rfl))) tb_nil)))) (tVA (tFR (te_rgL (tr_1 (td_frz (tFR (te_callBN (tb_cons (tVA (tHD (vdB rfl))) tb_nil)))))))))))
  (Fits.cons SS.okD (Fits.cons SS.okU Fits.nil))
def t_order_at (x0 x1 : PyData) : S PyData :=
  ((sCompA un1 (sItems (pure x1)) (fun q1 => (sBin pyIx (pure x0) (pure q1)))) >>= fun v2 => ((sCallB pySorted (sCons (pure v2) sNil)) >>= fun v3 => (sCallB pyTupOf (sCons (sCompA un1 (sItems (pure v2)) (fun q4 => (sIdx (pure v3) (pure q4)))) sNil))))
theorem tf_order_at : ∀ x0 x1 : PyData, FnT fm_order_at [.d x0, .d x1] (t_order_at x0 x1) := fun x0 x1 => fn_ok (t := [.d x0, .d x1, .jk, .jk, .jk, .jk])
  (tr_seq (TF.to (tb := fun (v2 : PyData) => [.d x0, .d x1, .d v2, .jk, .jk, .jk]) (tf_setD (te_arg (tFR (te_compA (ti_items (td_frz (tHD (vd rfl)))) rfl (pat1 (i := 3) (n := 6) (by decide)) (fun q1 => (td_frz (te_bin (tVA (tHD (vdB rfl))) (tVA (tHD (vdB rfl)))))) (fun q1 => (LE.cons SS.lr (LE.cons SS.lr (LE.cons SS.lr (LE.cons SS.lr (LE.cons SS.lr (LE.cons SS.lr LE.nil))))))) (fun q1 => (LE.cons SS.lr (LE.cons SS.lr (LE.cons SS.lr (LE.cons SS.lr (LE.cons SS.lr (LE.cons SS.lr LE.nil))))))))))) (fun _ => rfl)) fun v2 => (tr_seq (TF.to (tb := fun (v3 : PyData) => [.d x0, .d x1, .d v2, .jk, .d v3, .jk]) (tf_setD (te_arg (tFR (te_callBN (tb_cons (tVA (tHD (vdB rfl))) tb_nil))))) (fun _ => rfl)) fun v3 => (tr_ret (tFR (te_callBN (tb_cons (tVA (tFR (te_compA (ti_items (td_frz (tHD (vd rfl)))) rfl (pat1 (i := 5) (n := 6) (by decide)) (fun q4 => (td_frz (te_index (tVA (tHD (vdB rfl))) (tVA (tHD (vdB rfl)))))) (fun q4 => (LE.cons SS.lr (LE.cons SS.lr (LE.cons SS.lr (LE.cons SS.lr (LE.cons SS.lr (LE.cons SS.lr LE.nil))))))) (fun q4 => (LE.cons SS.lr (LE.cons SS.lr (LE.cons SS.lr (LE.cons SS.lr (LE.cons SS.lr (LE.cons SS.lr LE.nil)))))))))) tb_nil))))))
  (Fits.cons SS.okD (Fits.cons SS.okD (Fits.cons SS.okU (Fits.cons SS.okU (Fits.cons SS.okU (Fits.cons SS.okU Fits.nil))))))
def tlb_choices_of_1 (p0 : PyData) (v : PyData) (q : PyData × PyData) : S (PyData) :=
  (((sCompA un1 (sRange2 (pure q.2) (sCallB DL.pyLen (sCons (pure p0) sNil))) (fun q3 => (sTup (sCons (sTup (sStar (pure q.1) (sCons (sBin pyIx (pure p0) (pure q3)) sNil))) (sCons (sBin pyAdd (pure q3) (pure (.int 1))) sNil))))) >>= fun y4 => extS v y4) >>= fun v5 => pure v5)
def tlb_choices_of_2 (p0 : PyData) (v : PyData) (q : PyData) : S (PyData) :=
  ((sLst sNil) >>= fun v2 => (((sItems (pure v)) >>= fun xs_ => foldS (fun w_ x_ => S.opt (un2 x_) >>= (tlb_choices_of_1 p0) w_) xs_ v2) >>= fun v8 => ((sCallB pyListOf (sCons (pure v8) sNil)) >>= fun v9 => pure v9)))
def t_choices_of (x0 x1 : PyData) : S PyData :=
  ((sLst (sCons (sTup (sCons (sTup sNil) (sCons (pure (.int 0)) sNil))) sNil)) >>= fun v1 => (((sRange1 (pure x1)) >>= fun xs_ => foldS (fun w_ x_ => S.opt (un1 x_) >>= (tlb_choices_of_2 x0) w_) xs_ v1) >>= fun v12 => (sCompA un2 (sItems (pure v12)) (fun q13 => (pure q13.1)))))
theorem tf_choices_of : ∀ x0 x1 : PyData, FnT fm_choices_of [.d x0, .d x1] (t_choices_of x0 x1) := fun x0 x1 => fn_ok (t := [.d x0, .d x1, .jk, .jk, .jk, .jk, .jk, .jk])
  (tr_seq (TF.to (tb := fun (v1 : PyData) => [.d x0, .d x1, .d v1, .jk, .jk, .jk, .jk, .jk]) (tf_setD (te_arg (tFR (te_lst (ta_cons (te_arg (tHD (te_tup (ta_cons (te_arg (tHD (te_tup ta_nil))) (ta_cons (te_arg (tHD te_k)) ta_nil))))) ta_nil))))) (fun _ => rfl)) fun v1 => (tr_seq (TF.to (tb := fun (v12 : PyData) => [.d x0, .d x1, .d v12, .jk, .any, .jk, .jk, .jk]) (tf_for (n := 8) (tl := (fun (z_ : PyData) => [.d x0, .d x1, .d z_, .jk, .any, .jk, .jk, .jk])) v1 (ti_range1 (tVA (tHD (vdB rfl)))) (LE.cons SS.lr (LE.cons SS.lr (LE.cons SS.lr (LE.cons SS.lr (LE.cons SS.la (LE.cons SS.lr (LE.cons SS.lr (LE.cons SS.lr LE.nil)))))))) (fun _ => rfl) (pat1 (i := 3) (n := 8) (by decide)) (fun v2 q3 => (tf_seq (TF.to (tb := fun (v4 : PyData) => [.d x0, .d x1, .d v2, .d q3, .ow v4, .jk, .jk, .jk]) (tf_setF (te_lst ta_nil)) (fun _ => rfl)) fun v4 => (tf_seq (TF.to (tb := fun (v10 : PyData) => [.d x0, .d x1, .d v2, .d q3, .ow v10, .jk, .jk, .jk]) (tf_for (n := 8) (tl := (fun (z_ : PyData) => [.d x0, .d x1, .d v2, .d q3, .ow z_, .jk, .jk, .jk])) v4 (ti_items (td_frz (tHD (vd rfl)))) (LE.cons SS.lr (LE.cons SS.lr (LE.cons SS.lr (LE.cons SS.lr (LE.cons SS.lr (LE.cons SS.lr (LE.cons SS.lr (LE.cons SS.lr LE.nil)))))))) (fun _ => rfl) (pat2 (i := 5) (j := 6) (n := 8) (by decide)) (fun v5 q6 => (tf_weak (fun (v9 : PyData) => v9) (tf_extend rfl (tVA (tFR (te_compA (ti_range2 (tVA (tHD (vdB rfl))) (tVA (tFR (te_callBN (tb_cons (tVA (tHD (vdB rfl))) tb_nil))))) rfl (pat1 (i := 7) (n := 8) (by decide)) (fun q7 => (td_frz (tHD (te_tup (ta_cons (te_arg (tHD (te_tup (ta_star (tVA (tHD (vdB rfl))) (ta_cons (te_arg (te_bin (tVA (tHD (vdB rfl))) (tVA (tHD (vdB rfl))))) ta_nil))))) (ta_cons (te_arg (tFR (te_binN (tVA (tHD (vdB rfl))) (tVA (tHD te_k))))) ta_nil)))))) (fun q7 => (LE.cons SS.lr (LE.cons SS.lr (LE.cons SS.lr (LE.cons SS.lr (LE.cons SS.lr (LE.cons SS.lr (LE.cons SS.lr (LE.cons SS.lr LE.nil))))))))) (fun q7 => (LE.cons SS.lr (LE.cons SS.lr (LE.cons SS.lr (LE.cons SS.lr (LE.cons SS.lr (LE.cons SS.lr (LE.cons SS.lr (LE.cons SS.lr LE.nil)))))))))))) rfl) fun v9 => (LE.cons SS.lr (LE.cons SS.lr (LE.cons SS.lr (LE.cons SS.lr (LE.cons SS.lr (LE.cons SS.ldj (LE.cons SS.ldj (LE.cons SS.lr LE.nil))))))))))) (fun _ => rfl)) fun v10 => (tf_weak (fun (v11 : PyData) => v11) (tf_setD (te_arg (tFR (te_callBN (tb_cons (voB rfl) tb_nil))))) fun v11 => (LE.cons SS.lr (LE.cons SS.lr (LE.cons SS.lr (LE.cons SS.ldj (LE.cons SS.la (LE.cons SS.lr (LE.cons SS.lr (LE.cons SS.lr LE.nil))))))))))))) (fun _ => rfl)) fun v12 => (tr_ret (tFR (te_compA (ti_items (td_frz (tHD (vd rfl)))) rfl (pat2 (i := 5) (j := 6) (n := 8) (by decide)) (fun q13 => (td_frz (tHD (vd rfl)))) (fun q13 => (LE.cons SS.lr (LE.cons SS.lr (LE.cons SS.lr (LE.cons SS.lr (LE.cons SS.lr (LE.cons SS.lr (LE.cons SS.lr (LE.cons SS.lr LE.nil))))))))) (fun q13 => (LE.cons SS.lr (LE.cons SS.lr (LE.cons SS.lr (LE.cons SS.lr (LE.cons SS.lr (LE.cons SS.lr (LE.cons SS.lr (LE.cons SS.lr LE.nil))))))))))))))
  (Fits.cons SS.okD (Fits.cons SS.okD (Fits.cons SS.okU (Fits.cons SS.okU (Fits.cons SS.okU (Fits.cons SS.okU (Fits.cons SS.okU (Fits.cons SS.okU Fits.nil))))))))
def t_copies_of (x0 x1 : PyData) : S PyData :=
  (sCallB pyTupOf (sCons (sComp un1 (sItems ((sRgL .list (sRg1 (sCallB DL.pyLen (sCons (pure x1) sNil)))) >>= fun y1 => ((sCallB DL.pyLen (sCons (pure x0) sNil)) >>= fun y2 => t_choices_of y1 y2))) (fun q3 => (sBool (sBin pyEq ((pure x1) >>= fun y4 => ((pure q3) >>= fun y5 => t_order_at y4 y5)) (pure x0)))) (fun q3 => (pure q3))) sNil))
theorem tf_copies_of : ∀ x0 x1 : PyData, FnT fm_copies_of [.d x0, .d x1] (t_copies_of x0 x1) := fun x0 x1 => fn_ok (t := [.d x0, .d x1, .jk])
  (tr_ret (tFR (te_callBN (tb_cons (tVA (tFR (te_comp (ti_items (td_frz (te_c2 tf_choices_of (te_arg (tFR (te_rgL (tr_1 (td_frz (tFR (te_callBN (tb_cons (tVA (tHD (vdB rfl))) tb_nil)))))))) (te_arg (tFR (te_callBN (tb_cons (tVA (tHD (vdB rfl))) tb_nil))))))) rfl (pat1 (i := 2) (n := 3) (by decide)) (fun q3 => (tt_bool (tVA (te_bin (tVA (te_c2 tf_order_at (te_arg (tHD (vd rfl))) (te_arg (tHD (vd rfl))))) (tVA (tHD (vdB rfl))))))) (fun q3 => (td_frz (tHD (vd rfl)))) (fun q3 => (LE.cons SS.lr (LE.cons SS.lr (LE.cons SS.lr LE.nil)))) (fun q3 => (LE.cons SS.lr (LE.cons SS.lr (LE.cons SS.lr LE.nil))))))) tb_nil))))
  (Fits.cons SS.okD (Fits.cons SS.okD (Fits.cons SS.okU Fits.nil)))
def t_count_of (x0 x1 : PyData) : S PyData :=
  (sCallB DL.pyLen (sCons ((pure x0) >>= fun y1 => ((pure x1) >>= fun y2 => t_copies_of y1 y2)) sNil))
theorem tf_count_of : ∀ x0 x1 : PyData, FnT fm_count_of [.d x0, .d x1] (t_count_of x0 x1) := fun x0 x1 => fn_ok (t := [.d x0, .d x1])
  (tr_ret (tFR (te_callBN (tb_cons (tVA (te_c2 tf_copies_of (te_arg (tHD (vd rfl))) (te_arg (tHD (vd rfl))))) tb_nil))))
  (Fits.cons SS.okD (Fits.cons SS.okD Fits.nil))
def tlb_little_orders_1 (v : PyData) (q : PyData) : S (PyData) :=
  ((((pure q) >>= fun y2 => t_orders_of y2) >>= fun y3 => extAS v y3) >>= fun v4 => pure v4)
def t_little_orders (x0 : PyData) : S PyData :=
  ((sLst sNil) >>= fun v1 => (((sRange1 (sBin pyAdd (pure x0) (pure (.int 1)))) >>= fun xs_ => foldS (fun w_ x_ => S.opt (un1 x_) >>= tlb_little_orders_1 w_) xs_ v1) >>= fun v7 => (sCallB pyTupOf (sCons (pure v7) sNil))))
theorem tf_little_orders : ∀ x0 : PyData, FnT fm_little_orders [.d x0] (t_little_orders x0) := fun x0 => fn_ok (t := [.d x0, .jk, .jk])
  (tr_seq (tf_setF (te_lst ta_nil)) fun v1 => (tr_seq (tf_for (n := 3) (tl := (fun (z_ : PyData) => [.d x0, .ow z_, .jk])) v1 (ti_range1 (tVA (tFR (te_binN (tVA (tHD (vdB rfl))) (tVA (tHD te_k)))))) (LE.cons SS.lr (LE.cons SS.lr (LE.cons SS.lr LE.nil))) (fun _ => rfl) (pat1 (i := 2) (n := 3) (by decide)) (fun v2 q3 => (tf_weak (fun (v6 : PyData) => v6) (tf_extendA rfl (tVA (te_c1 tf_orders_of (te_arg (tHD (vd rfl))))) rfl) fun v6 => (LE.cons SS.lr (LE.cons SS.lr (LE.cons SS.ldj LE.nil)))))) fun v7 => (tr_ret (tFR (te_callBN (tb_cons (voB rfl) tb_nil))))))
  (Fits.cons SS.okD (Fits.cons SS.okU (Fits.cons SS.okU Fits.nil)))
def t_is_number (x0 : PyData) : S PyData :=
  (sAndV (sIsi "int" (pure x0)) (sAndV (sNotV (sIsi "bool" (pure x0))) (sBin pyNe (pure x0) (pure (.int 0)))))
theorem tf_is_number : ∀ x0 : PyData, FnT fm_is_number [.d x0] (t_is_number x0) := fun x0 => fn_ok (t := [.d x0])
  (tr_ret (te_andV (tVA (tHD (te_isi (tVA (tHD (vdB rfl)))))) (te_andV (tVA (tHD (te_notV (tVA (tHD (te_isi (tVA (tHD (vdB rfl))))))))) (te_bin (tVA (tHD (vdB rfl))) (tVA (tHD te_k))))))
  (Fits.cons SS.okD Fits.nil)
def t_is_pair (x0 : PyData) : S PyData :=
  (sIf (sOrT (sNotT (sBool (sIsi "tuple" (pure x0)))) (sBool (sBin pyNe (sCallB DL.pyLen (sCons (pure x0) sNil)) (pure (.int 2))))) (pure (.bool false)) (sAndV ((sBin pyIx (pure x0) (pure (.int 0))) >>= fun y1 => t_is_order y1) (sAndV (sBin pyLe (sCallB DL.pyLen (sCons (sBin pyIx (pure x0) (pure (.int 0))) sNil)) (pure (.int 6))) ((sBin pyIx (pure x0) (pure (.int 1))) >>= fun y2 => t_is_number y2))))
theorem tf_is_pair : ∀ x0 : PyData, FnT fm_is_pair [.d x0] (t_is_pair x0) := fun x0 => fn_ok (t := [.d x0])
  (tr_if1 (tt_or (tt_not (tt_bool (tVA (tHD (te_isi (tVA (tHD (vdB rfl)))))))) (tt_bool (tVA (te_bin (tVA (tFR (te_callBN (tb_cons (tVA (tHD (vdB rfl))) tb_nil)))) (tVA (tHD te_k)))))) (tr_ret (tHD te_k)) (tr_ret (te_andV (tVA (te_c1 tf_is_order (te_arg (te_bin (tVA (tHD (vdB rfl))) (tVA (tHD te_k)))))) (te_andV (tVA (te_bin (tVA (tFR (te_callBN (tb_cons (tVA (te_bin (tVA (tHD (vdB rfl))) (tVA (tHD te_k)))) tb_nil)))) (tVA (tHD te_k)))) (te_c1 tf_is_number (te_arg (te_bin (tVA (tHD (vdB rfl))) (tVA (tHD te_k)))))))))
  (Fits.cons SS.okD Fits.nil)
def t_is_form (x0 : PyData) : S PyData :=
  (sIf (sOrT (sNotT (sBool (sIsi "tuple" (pure x0)))) (sNotT (sBool (sCallB pyAll (sCons (sCompA un1 (sItems (pure x0)) (fun q1 => ((pure q1) >>= fun y2 => t_is_pair y2))) sNil))))) (pure (.bool false)) (sCallB pyAll (sCons (sCompA un2 (sZip (pure x0) (sSl (pure x0) ((pure (.int 1)) >>= partS) (pure none))) (fun q3 => (sBin pyLt (sBin pyIx (pure q3.1) (pure (.int 0))) (sBin pyIx (pure q3.2) (pure (.int 0)))))) sNil)))
theorem tf_is_form : ∀ x0 : PyData, FnT fm_is_form [.d x0] (t_is_form x0) := fun x0 => fn_ok (t := [.d x0, .jk, .jk, .jk])
  (tr_if1 (tt_or (tt_not (tt_bool (tVA (tHD (te_isi (tVA (tHD (vdB rfl)))))))) (tt_not (tt_bool (tVA (tFR (te_callBN (tb_cons (tVA (tFR (te_compA (ti_items (td_frz (tHD (vd rfl)))) rfl (pat1 (i := 1) (n := 4) (by decide)) (fun q1 => (td_frz (te_c1 tf_is_pair (te_arg (tHD (vd rfl)))))) (fun q1 => (LE.cons SS.lr (LE.cons SS.lr (LE.cons SS.lr (LE.cons SS.lr LE.nil))))) (fun q1 => (LE.cons SS.lr (LE.cons SS.lr (LE.cons SS.lr (LE.cons SS.lr LE.nil)))))))) tb_nil))))))) (tr_ret (tHD te_k)) (tr_ret (tFR (te_callBN (tb_cons (tVA (tFR (te_compA (ti_zip (te_arg (tHD (vd rfl))) (te_arg (tFR (te_slice (tVA (tHD (vdB rfl))) (to_some (td_frz (tHD te_k))) to_none)))) rfl (pat2 (i := 2) (j := 3) (n := 4) (by decide)) (fun q3 => (td_frz (te_bin (tVA (te_bin (tVA (tHD (vdB rfl))) (tVA (tHD te_k)))) (tVA (te_bin (tVA (tHD (vdB rfl))) (tVA (tHD te_k))))))) (fun q3 => (LE.cons SS.lr (LE.cons SS.lr (LE.cons SS.lr (LE.cons SS.lr LE.nil))))) (fun q3 => (LE.cons SS.lr (LE.cons SS.lr (LE.cons SS.lr (LE.cons SS.lr LE.nil)))))))) tb_nil)))))
  (Fits.cons SS.okD (Fits.cons SS.okU (Fits.cons SS.okU (Fits.cons SS.okU Fits.nil))))
def tlb_form_of_pairs_1 (v : PyData) (q : PyData × PyData) : S (PyData) :=
  ((sTPut v (sBin pyAdd (sTGet2 v (pure q.1) (pure (.int 0))) (pure q.2)) (pure q.1)) >>= fun v2 => pure v2)
def t_form_of_pairs (x0 : PyData) : S PyData :=
  ((pure (mkT [])) >>= fun v1 => (((sItems (pure x0)) >>= fun xs_ => foldS (fun w_ x_ => S.opt (un2 x_) >>= tlb_form_of_pairs_1 w_) xs_ v1) >>= fun v5 => (sCallB pyTupOf (sCons (sComp un1 (sItems (sTSort v5)) (fun q6 => (sBool (sBin pyNe (sTGet v5 (pure q6)) (pure (.int 0))))) (fun q6 => (sTup (sCons (pure q6) (sCons (sTGet v5 (pure q6)) sNil))))) sNil))))
theorem tf_form_of_pairs : ∀ x0 : PyData, FnT fm_form_of_pairs [.d x0] (t_form_of_pairs x0) := fun x0 => fn_ok (t := [.d x0, .jk, .jk, .jk])
  (tr_seq tf_newT fun v1 => (tr_seq (tf_for (n := 4) (tl := (fun (z_ : PyData) => [.d x0, .dt z_, .jk, .jk])) v1 (ti_items (td_frz (tHD (vd rfl)))) (LE.cons SS.lr (LE.cons SS.lr (LE.cons SS.lr (LE.cons SS.lr LE.nil)))) (fun _ => rfl) (pat2 (i := 2) (j := 3) (n := 4) (by decide)) (fun v2 q3 => (tf_weak (fun (v4 : PyData) => v4) (tf_tput (td_frz (tFR (te_binN (tVA (tHD (te_tget2 rfl (td_frz (tHD (vd rfl))) (td_frz (tHD te_k)) rfl))) (tVA (tHD (vdB rfl)))))) rfl (td_frz (tHD (vd rfl))) rfl) fun v4 => (LE.cons SS.lr (LE.cons SS.lr (LE.cons SS.ldj (LE.cons SS.ldj LE.nil))))))) fun v5 => (tr_ret (tFR (te_callBN (tb_cons (tVA (tFR (te_comp (ti_items (td_frz (tFR (te_tsort rfl)))) rfl (pat1 (i := 2) (n := 4) (by decide)) (fun q6 => (tt_bool (tVA (te_bin (tVA (tHD (te_tget rfl (td_frz (tHD (vd rfl))) rfl))) (tVA (tHD te_k)))))) (fun q6 => (td_frz (tHD (te_tup (ta_cons (te_arg (tHD (vd rfl))) (ta_cons (te_arg (tHD (te_tget rfl (td_frz (tHD (vd rfl))) rfl))) ta_nil)))))) (fun q6 => (LE.cons SS.lr (LE.cons SS.lr (LE.cons SS.lr (LE.cons SS.lr LE.nil))))) (fun q6 => (LE.cons SS.lr (LE.cons SS.lr (LE.cons SS.lr (LE.cons SS.lr LE.nil)))))))) tb_nil))))))
  (Fits.cons SS.okD (Fits.cons SS.okU (Fits.cons SS.okU (Fits.cons SS.okU Fits.nil))))
def t_form_sum (x0 x1 : PyData) : S PyData :=
  ((sLst (sStar (pure x0) (sStar (pure x1) sNil))) >>= fun y1 => t_form_of_pairs y1)
theorem tf_form_sum : ∀ x0 x1 : PyData, FnT fm_form_sum [.d x0, .d x1] (t_form_sum x0 x1) := fun x0 x1 => fn_ok (t := [.d x0, .d x1])
  (tr_ret (te_c1 tf_form_of_pairs (te_arg (tFR (te_lst (ta_star (tVA (tHD (vdB rfl))) (ta_star (tVA (tHD (vdB rfl))) ta_nil)))))))
  (Fits.cons SS.okD (Fits.cons SS.okD Fits.nil))
def t_form_size (x0 : PyData) : S PyData :=
  (sMaxDef (sCompA un2 (sItems (pure x0)) (fun q1 => (sCallB DL.pyLen (sCons (pure q1.1) sNil)))) (sUn pyNeg (pure (.int 1))))
theorem tf_form_size : ∀ x0 : PyData, FnT fm_form_size [.d x0] (t_form_size x0) := fun x0 => fn_ok (t := [.d x0, .jk, .jk])
  (tr_ret (tHD (te_maxDef (tVA (tFR (te_compA (ti_items (td_frz (tHD (vd rfl)))) rfl (pat2 (i := 1) (j := 2) (n := 3) (by decide)) (fun q1 => (td_frz (tFR (te_callBN (tb_cons (tVA (tHD (vdB rfl))) tb_nil))))) (fun q1 => (LE.cons SS.lr (LE.cons SS.lr (LE.cons SS.lr LE.nil)))) (fun q1 => (LE.cons SS.lr (LE.cons SS.lr (LE.cons SS.lr LE.nil))))))) (te_un (tVA (tHD te_k))))))
  (Fits.cons SS.okD (Fits.cons SS.okU (Fits.cons SS.okU Fits.nil)))
def t_form_worth (x0 x1 : PyData) : S PyData :=
  (sCallB pySum (sCons (sCompA un2 (sItems (pure x0)) (fun q1 => (sBin pyMul (pure q1.2) ((pure q1.1) >>= fun y2 => ((pure x1) >>= fun y3 => t_count_of y2 y3))))) sNil))
theorem tf_form_worth : ∀ x0 x1 : PyData, FnT fm_form_worth [.d x0, .d x1] (t_form_worth x0 x1) := fun x0 x1 => fn_ok (t := [.d x0, .d x1, .jk, .jk])
  (tr_ret (tFR (te_callBN (tb_cons (tVA (tFR (te_compA (ti_items (td_frz (tHD (vd rfl)))) rfl (pat2 (i := 2) (j := 3) (n := 4) (by decide)) (fun q1 => (td_frz (tFR (te_binN (tVA (tHD (vdB rfl))) (tVA (te_c2 tf_count_of (te_arg (tHD (vd rfl))) (te_arg (tHD (vd rfl))))))))) (fun q1 => (LE.cons SS.lr (LE.cons SS.lr (LE.cons SS.lr (LE.cons SS.lr LE.nil))))) (fun q1 => (LE.cons SS.lr (LE.cons SS.lr (LE.cons SS.lr (LE.cons SS.lr LE.nil)))))))) tb_nil))))
  (Fits.cons SS.okD (Fits.cons SS.okD (Fits.cons SS.okU (Fits.cons SS.okU Fits.nil))))
def t_table_of (x0 x1 : PyData) : S PyData :=
  (sCallB pyTupOf (sCons (sCompA un1 (sItems ((pure x1) >>= fun y1 => t_little_orders y1)) (fun q2 => ((pure x0) >>= fun y3 => ((pure q2) >>= fun y4 => t_form_worth y3 y4)))) sNil))
theorem tf_table_of : ∀ x0 x1 : PyData, FnT fm_table_of [.d x0, .d x1] (t_table_of x0 x1) := fun x0 x1 => fn_ok (t := [.d x0, .d x1, .jk])
  (tr_ret (tFR (te_callBN (tb_cons (tVA (tFR (te_compA (ti_items (td_frz (te_c1 tf_little_orders (te_arg (tHD (vd rfl)))))) rfl (pat1 (i := 2) (n := 3) (by decide)) (fun q2 => (td_frz (te_c2 tf_form_worth (te_arg (tHD (vd rfl))) (te_arg (tHD (vd rfl)))))) (fun q2 => (LE.cons SS.lr (LE.cons SS.lr (LE.cons SS.lr LE.nil)))) (fun q2 => (LE.cons SS.lr (LE.cons SS.lr (LE.cons SS.lr LE.nil))))))) tb_nil))))
  (Fits.cons SS.okD (Fits.cons SS.okD (Fits.cons SS.okU Fits.nil)))
def tlb_form_of_table_1 (v : PyData) (q : PyData × PyData) : S (PyData) :=
  (((sTup (sCons (pure q.1) (sCons (sBin pySub (pure q.2) ((((pure v) >>= fun y3 => t_form_of_pairs y3) >>= noLstS) >>= fun y4 => ((pure q.1) >>= fun y5 => t_form_worth y4 y5))) sNil))) >>= fun y6 => appS v y6) >>= fun v7 => pure v7)
def t_form_of_table (x0 x1 : PyData) : S PyData :=
  ((sLst sNil) >>= fun v1 => (((sZipM ((pure x0) >>= fun y2 => t_little_orders y2) (pure x1)) >>= fun xs_ => foldS (fun w_ x_ => S.opt (un2 x_) >>= tlb_form_of_table_1 w_) xs_ v1) >>= fun v10 => ((pure v10) >>= fun y11 => t_form_of_pairs y11)))
theorem tf_form_of_table : ∀ x0 x1 : PyData, FnT fm_form_of_table [.d x0, .d x1] (t_form_of_table x0 x1) := fun x0 x1 => fn_ok (t := [.d x0, .d x1, .jk, .jk, .jk])
  (tr_seq (tf_setF (te_lst ta_nil)) fun v1 => (tr_seq (tf_for (n := 5) (tl := (fun (z_ : PyData) => [.d x0, .d x1, .ow z_, .jk, .jk])) v1 (ti_zipM (te_arg (te_c1 tf_little_orders (te_arg (tHD (vd rfl))))) (te_arg (tHD (vd rfl)))) (LE.cons SS.lr (LE.cons SS.lr (LE.cons SS.lr (LE.cons SS.lr (LE.cons SS.lr LE.nil))))) (fun _ => rfl) (pat2 (i := 3) (j := 4) (n := 5) (by decide)) (fun v3 q4 => (tf_weak (fun (v9 : PyData) => v9) (tf_append rfl (td_frz (tHD (te_tup (ta_cons (te_arg (tHD (vd rfl))) (ta_cons (te_arg (tFR (te_binN (tVA (tHD (vdB rfl))) (tVA (te_c2 tf_form_worth (te_arg (tHD (te_thaw (te_c1 tf_form_of_pairs (te_arg (tHD (vd rfl))))))) (te_arg (tHD (vd rfl)))))))) ta_nil))))) rfl) fun v9 => (LE.cons SS.lr (LE.cons SS.lr (LE.cons SS.lr (LE.cons SS.ldj (LE.cons SS.ldj LE.nil)))))))) fun v10 => (tr_ret (te_c1 tf_form_of_pairs (te_arg (tHD (vo rfl)))))))
  (Fits.cons SS.okD (Fits.cons SS.okD (Fits.cons SS.okU (Fits.cons SS.okU (Fits.cons SS.okU Fits.nil)))))
def t__law_pick (x0 : PyData) : S PyData := ofFM fm__law_pick [.src false, .d x0]
theorem tf__law_pick : ∀ x0 : PyData, FnT fm__law_pick [.src false, .d x0] (t__law_pick x0) := fun x0 => fn_of
def t__law_of (x0 : PyData) : S PyData :=
  (sBin pyIx (pure x0) ((sCallB DL.pyLen (sCons (pure x0) sNil)) >>= fun y1 => t__law_pick y1))
theorem tf__law_of : ∀ x0 : PyData, FnT fm__law_of [.src false, .d x0] (t__law_of x0) := fun x0 => fn_ok (t := [.src false, .d x0])
  (tr_ret (te_bin (tVA (tHD (vdB rfl))) (tVA (te_s1 tf__law_pick rfl (te_arg (tFR (te_callBN (tb_cons (tVA (tHD (vdB rfl))) tb_nil))))))))
  (Fits.cons SS.okS (Fits.cons SS.okD Fits.nil))
def tlb__law_orders_1 (p0 : PyData) (v : PyData) (q : PyData) : S (PyData) :=
  (((sComp un1 (sRange1 (pure p0)) (fun q3 => (sBool (sBin (pyIn true) (pure q3) (pure q)))) (fun q3 => (sBin pyAdd (pure q) (sTup (sCons (pure q3) sNil))))) >>= fun y4 => extS v y4) >>= fun v5 => pure v5)
def tlb__law_orders_2 (p0 : PyData) (v : PyData) (q : PyData) : S (PyData) :=
  ((sLst sNil) >>= fun v2 => (((sItems (pure v)) >>= fun xs_ => foldS (fun w_ x_ => S.opt (un1 x_) >>= (tlb__law_orders_1 p0) w_) xs_ v2) >>= fun v8 => ((sCallB pyListOf (sCons (pure v8) sNil)) >>= fun v9 => pure v9)))
def t__law_orders (x0 : PyData) : S PyData :=
  ((sLst (sCons (sTup sNil) sNil)) >>= fun v1 => (((sRange1 (pure x0)) >>= fun xs_ => foldS (fun w_ x_ => S.opt (un1 x_) >>= (tlb__law_orders_2 x0) w_) xs_ v1) >>= fun v12 => (pure v12)))
theorem tf__law_orders : ∀ x0 : PyData, FnT fm__law_orders [.d x0] (t__law_orders x0) := fun x0 => fn_ok (t := [.d x0, .jk, .jk, .jk, .jk, .jk])
  (tr_seq (TF.to (tb := fun (v1 : PyData) => [.d x0, .d v1, .jk, .jk, .jk, .jk]) (tf_setD (te_arg (tFR (te_lst (ta_cons (te_arg (tHD (te_tup ta_nil))) ta_nil))))) (fun _ => rfl)) fun v1 => (tr_seq (TF.to (tb := fun (v12 : PyData) => [.d x0, .d v12, .jk, .any, .jk, .jk]) (tf_for (n := 6) (tl := (fun (z_ : PyData) => [.d x0, .d z_, .jk, .any, .jk, .jk])) v1 (ti_range1 (tVA (tHD (vdB rfl)))) (LE.cons SS.lr (LE.cons SS.lr (LE.cons SS.lr (LE.cons SS.la (LE.cons SS.lr (LE.cons SS.lr LE.nil)))))) (fun _ => rfl) (pat1 (i := 2) (n := 6) (by decide)) (fun v2 q3 => (tf_seq (TF.to (tb := fun (v4 : PyData) => [.d x0, .d v2, .d q3, .ow v4, .jk, .jk]) (tf_setF (te_lst ta_nil)) (fun _ => rfl)) fun v4 => (tf_seq (TF.to (tb := fun (v10 : PyData) => [.d x0, .d v2, .d q3, .ow v10, .jk, .jk]) (tf_for (n := 6) (tl := (fun (z_ : PyData) => [.d x0, .d v2, .d q3, .ow z_, .jk, .jk])) v4 (ti_items (td_frz (tHD (vd rfl)))) (LE.cons SS.lr (LE.cons SS.lr (LE.cons SS.lr (LE.cons SS.lr (LE.cons SS.lr (LE.cons SS.lr LE.nil)))))) (fun _ => rfl) (pat1 (i := 4) (n := 6) (by decide)) (fun v5 q6 => (tf_weak (fun (v9 : PyData) => v9) (tf_extend rfl (tVA (tFR (te_comp (ti_range1 (tVA (tHD (vdB rfl)))) rfl (pat1 (i := 5) (n := 6) (by decide)) (fun q7 => (tt_bool (tVA (te_bin (tVA (tHD (vdB rfl))) (tVA (tHD (vdB rfl))))))) (fun q7 => (td_frz (tFR (te_binN (tVA (tHD (vdB rfl))) (tVA (tHD (te_tup (ta_cons (te_arg (tHD (vd rfl))) ta_nil)))))))) (fun q7 => (LE.cons SS.lr (LE.cons SS.lr (LE.cons SS.lr (LE.cons SS.lr (LE.cons SS.lr (LE.cons SS.lr LE.nil))))))) (fun q7 => (LE.cons SS.lr (LE.cons SS.lr (LE.cons SS.lr (LE.cons SS.lr (LE.cons SS.lr (LE.cons SS.lr LE.nil)))))))))) rfl) fun v9 => (LE.cons SS.lr (LE.cons SS.lr (LE.cons SS.lr (LE.cons SS.lr (LE.cons SS.ldj (LE.cons SS.lr LE.nil))))))))) (fun _ => rfl)) fun v10 => (tf_weak (fun (v11 : PyData) => v11) (tf_setD (te_arg (tFR (te_callBN (tb_cons (voB rfl) tb_nil))))) fun v11 => (LE.cons SS.lr (LE.cons SS.lr (LE.cons SS.ldj (LE.cons SS.la (LE.cons SS.lr (LE.cons SS.lr LE.nil))))))))))) (fun _ => rfl)) fun v12 => (tr_d rfl)))
  (Fits.cons SS.okD (Fits.cons SS.okU (Fits.cons SS.okU (Fits.cons SS.okU (Fits.cons SS.okU (Fits.cons SS.okU Fits.nil))))))
def tlb__law_little_1 (v : PyData) (q : PyData) : S (PyData) :=
  ((((pure q) >>= fun y2 => t__law_orders y2) >>= fun y3 => extAS v y3) >>= fun v4 => pure v4)
def t__law_little (x0 : PyData) : S PyData :=
  ((sLst sNil) >>= fun v1 => (((sRange1 (sBin pyAdd (pure x0) (pure (.int 1)))) >>= fun xs_ => foldS (fun w_ x_ => S.opt (un1 x_) >>= tlb__law_little_1 w_) xs_ v1) >>= fun v7 => (pure v7)))
theorem tf__law_little : ∀ x0 : PyData, FnT fm__law_little [.d x0] (t__law_little x0) := fun x0 => fn_ok (t := [.d x0, .jk, .jk])
  (tr_seq (tf_setF (te_lst ta_nil)) fun v1 => (tr_seq (tf_for (n := 3) (tl := (fun (z_ : PyData) => [.d x0, .ow z_, .jk])) v1 (ti_range1 (tVA (tFR (te_binN (tVA (tHD (vdB rfl))) (tVA (tHD te_k)))))) (LE.cons SS.lr (LE.cons SS.lr (LE.cons SS.lr LE.nil))) (fun _ => rfl) (pat1 (i := 2) (n := 3) (by decide)) (fun v2 q3 => (tf_weak (fun (v6 : PyData) => v6) (tf_extendA rfl (tVA (te_c1 tf__law_orders (te_arg (tHD (vd rfl))))) rfl) fun v6 => (LE.cons SS.lr (LE.cons SS.lr (LE.cons SS.ldj LE.nil)))))) fun v7 => (tr_o rfl)))
  (Fits.cons SS.okD (Fits.cons SS.okU (Fits.cons SS.okU Fits.nil)))
def tlb__law_chosen_1 (p0 : PyData) (v : PyData) (q : PyData) : S (PyData) :=
  (((sCompA un1 (sRange2 (sIf (sBool (sBin pyNe (pure q) (sTup sNil))) (sBin pyAdd (sBin pyIx (pure q) (sUn pyNeg (pure (.int 1)))) (pure (.int 1))) (pure (.int 0))) (pure p0)) (fun q3 => (sBin pyAdd (pure q) (sTup (sCons (pure q3) sNil))))) >>= fun y4 => extS v y4) >>= fun v5 => pure v5)
def tlb__law_chosen_2 (p0 : PyData) (v : PyData) (q : PyData) : S (PyData) :=
  ((sLst sNil) >>= fun v2 => (((sItems (pure v)) >>= fun xs_ => foldS (fun w_ x_ => S.opt (un1 x_) >>= (tlb__law_chosen_1 p0) w_) xs_ v2) >>= fun v8 => ((sCallB pyListOf (sCons (pure v8) sNil)) >>= fun v9 => pure v9)))
def t__law_chosen (x0 x1 : PyData) : S PyData :=
  ((sLst (sCons (sTup sNil) sNil)) >>= fun v1 => (((sRange1 (pure x1)) >>= fun xs_ => foldS (fun w_ x_ => S.opt (un1 x_) >>= (tlb__law_chosen_2 x0) w_) xs_ v1) >>= fun v12 => (pure v12)))
theorem tf__law_chosen : ∀ x0 x1 : PyData, FnT fm__law_chosen [.d x0, .d x1] (t__law_chosen x0 x1) := fun x0 x1 => fn_ok (t := [.d x0, .d x1, .jk, .jk, .jk, .jk, .jk])
  (tr_seq (TF.to (tb := fun (v1 : PyData) => [.d x0, .d x1, .d v1, .jk, .jk, .jk, .jk]) (tf_setD (te_arg (tFR (te_lst (ta_cons (te_arg (tHD (te_tup ta_nil))) ta_nil))))) (fun _ => rfl)) fun v1 => (tr_seq (TF.to (tb := fun (v12 : PyData) => [.d x0, .d x1, .d v12, .jk, .any, .jk, .jk]) (tf_for (n := 7) (tl := (fun (z_ : PyData) => [.d x0, .d x1, .d z_, .jk, .any, .jk, .jk])) v1 (ti_range1 (tVA (tHD (vdB rfl)))) (LE.cons SS.lr (LE.cons SS.lr (LE.cons SS.lr (LE.cons SS.lr (LE.cons SS.la (LE.cons SS.lr (LE.cons SS.lr LE.nil))))))) (fun _ => rfl) (pat1 (i := 3) (n := 7) (by decide)) (fun v2 q3 => (tf_seq (TF.to (tb := fun (v4 : PyData) => [.d x0, .d x1, .d v2, .d q3, .ow v4, .jk, .jk]) (tf_setF (te_lst ta_nil)) (fun _ => rfl)) fun v4 => (tf_seq (TF.to (tb := fun (v10 : PyData) => [.d x0, .d x1, .d v2, .d q3, .ow v10, .jk, .jk]) (tf_for (n := 7) (tl := (fun (z_ : PyData) => [.d x0, .d x1, .d v2, .d q3, .ow z_, .jk, .jk])) v4 (ti_items (td_frz (tHD (vd rfl)))) (LE.cons SS.lr (LE.cons SS.lr (LE.cons SS.lr (LE.cons SS.lr (LE.cons SS.lr (LE.cons SS.lr (LE.cons SS.lr LE.nil))))))) (fun _ => rfl) (pat1 (i := 5) (n := 7) (by decide)) (fun v5 q6 => (tf_weak (fun (v9 : PyData) => v9) (tf_extend rfl (tVA (tFR (te_compA (ti_range2 (tVA (te_if (tt_bool (tVA (te_bin (tVA (tHD (vdB rfl))) (tVA (tHD (te_tup ta_nil)))))) (tFR (te_binN (tVA (te_bin (tVA (tHD (vdB rfl))) (tVA (te_un (tVA (tHD te_k)))))) (tVA (tHD te_k)))) (tHD te_k))) (tVA (tHD (vdB rfl)))) rfl (pat1 (i := 6) (n := 7) (by decide)) (fun q7 => (td_frz (tFR (te_binN (tVA (tHD (vdB rfl))) (tVA (tHD (te_tup (ta_cons (te_arg (tHD (vd rfl))) ta_nil)))))))) (fun q7 => (LE.cons SS.lr (LE.cons SS.lr (LE.cons SS.lr (LE.cons SS.lr (LE.cons SS.lr (LE.cons SS.lr (LE.cons SS.lr LE.nil)))))))) (fun q7 => (LE.cons SS.lr (LE.cons SS.lr (LE.cons SS.lr (LE.cons SS.lr (LE.cons SS.lr (LE.cons SS.lr (LE.cons SS.lr LE.nil))))))))))) rfl) fun v9 => (LE.cons SS.lr (LE.cons SS.lr (LE.cons SS.lr (LE.cons SS.lr (LE.cons SS.lr (LE.cons SS.ldj (LE.cons SS.lr LE.nil)))))))))) (fun _ => rfl)) fun v10 => (tf_weak (fun (v11 : PyData) => v11) (tf_setD (te_arg (tFR (te_callBN (tb_cons (voB rfl) tb_nil))))) fun v11 => (LE.cons SS.lr (LE.cons SS.lr (LE.cons SS.lr (LE.cons SS.ldj (LE.cons SS.la (LE.cons SS.lr (LE.cons SS.lr LE.nil)))))))))))) (fun _ => rfl)) fun v12 => (tr_d rfl)))
  (Fits.cons SS.okD (Fits.cons SS.okD (Fits.cons SS.okU (Fits.cons SS.okU (Fits.cons SS.okU (Fits.cons SS.okU (Fits.cons SS.okU Fits.nil)))))))
def t__law_order_at (x0 x1 : PyData) : S PyData :=
  ((sCompA un1 (sItems (pure x1)) (fun q1 => (sBin pyIx (pure x0) (pure q1)))) >>= fun v2 => (sCallB pyTupOf (sCons (sCompA un1 (sItems (pure v2)) (fun q3 => (sCallB DL.pyLen (sCons (sComp un1 (sItems (pure v2)) (fun q4 => (sBool (sBin pyLt (pure q4) (pure q3)))) (fun q4 => (pure (.int 1)))) sNil)))) sNil)))
theorem tf__law_order_at : ∀ x0 x1 : PyData, FnT fm__law_order_at [.d x0, .d x1] (t__law_order_at x0 x1) := fun x0 x1 => fn_ok (t := [.d x0, .d x1, .jk, .jk, .jk, .jk])
  (tr_seq (TF.to (tb := fun (v2 : PyData) => [.d x0, .d x1, .d v2, .jk, .jk, .jk]) (tf_setD (te_arg (tFR (te_compA (ti_items (td_frz (tHD (vd rfl)))) rfl (pat1 (i := 3) (n := 6) (by decide)) (fun q1 => (td_frz (te_bin (tVA (tHD (vdB rfl))) (tVA (tHD (vdB rfl)))))) (fun q1 => (LE.cons SS.lr (LE.cons SS.lr (LE.cons SS.lr (LE.cons SS.lr (LE.cons SS.lr (LE.cons SS.lr LE.nil))))))) (fun q1 => (LE.cons SS.lr (LE.cons SS.lr (LE.cons SS.lr (LE.cons SS.lr (LE.cons SS.lr (LE.cons SS.lr LE.nil))))))))))) (fun _ => rfl)) fun v2 => (tr_ret (tFR (te_callBN (tb_cons (tVA (tFR (te_compA (ti_items (td_frz (tHD (vd rfl)))) rfl (pat1 (i := 5) (n := 6) (by decide)) (fun q3 => (td_frz (tFR (te_callBN (tb_cons (tVA (tFR (te_comp (ti_items (td_frz (tHD (vd rfl)))) rfl (pat1 (i := 4) (n := 6) (by decide)) (fun q4 => (tt_bool (tVA (te_bin (tVA (tHD (vdB rfl))) (tVA (tHD (vdB rfl))))))) (fun q4 => (td_frz (tHD te_k))) (fun q4 => (LE.cons SS.lr (LE.cons SS.lr (LE.cons SS.lr (LE.cons SS.lr (LE.cons SS.lr (LE.cons SS.lr LE.nil))))))) (fun q4 => (LE.cons SS.lr (LE.cons SS.lr (LE.cons SS.lr (LE.cons SS.lr (LE.cons SS.lr (LE.cons SS.lr LE.nil)))))))))) tb_nil))))) (fun q3 => (LE.cons SS.lr (LE.cons SS.lr (LE.cons SS.lr (LE.cons SS.lr (LE.cons SS.lr (LE.cons SS.lr LE.nil))))))) (fun q3 => (LE.cons SS.lr (LE.cons SS.lr (LE.cons SS.lr (LE.cons SS.lr (LE.cons SS.lr (LE.cons SS.lr LE.nil)))))))))) tb_nil)))))
  (Fits.cons SS.okD (Fits.cons SS.okD (Fits.cons SS.okU (Fits.cons SS.okU (Fits.cons SS.okU (Fits.cons SS.okU Fits.nil))))))
def t__law_count (x0 x1 : PyData) : S PyData :=
  (sCallB DL.pyLen (sCons (sComp un1 (sItems ((sCallB DL.pyLen (sCons (pure x1) sNil)) >>= fun y1 => ((sCallB DL.pyLen (sCons (pure x0) sNil)) >>= fun y2 => t__law_chosen y1 y2))) (fun q3 => (sBool (sBin pyEq ((pure x1) >>= fun y4 => ((pure q3) >>= fun y5 => t__law_order_at y4 y5)) (pure x0)))) (fun q3 => (pure (.int 1)))) sNil))
theorem tf__law_count : ∀ x0 x1 : PyData, FnT fm__law_count [.d x0, .d x1] (t__law_count x0 x1) := fun x0 x1 => fn_ok (t := [.d x0, .d x1, .jk])
  (tr_ret (tFR (te_callBN (tb_cons (tVA (tFR (te_comp (ti_items (td_frz (te_c2 tf__law_chosen (te_arg (tFR (te_callBN (tb_cons (tVA (tHD (vdB rfl))) tb_nil)))) (te_arg (tFR (te_callBN (tb_cons (tVA (tHD (vdB rfl))) tb_nil))))))) rfl (pat1 (i := 2) (n := 3) (by decide)) (fun q3 => (tt_bool (tVA (te_bin (tVA (te_c2 tf__law_order_at (te_arg (tHD (vd rfl))) (te_arg (tHD (vd rfl))))) (tVA (tHD (vdB rfl))))))) (fun q3 => (td_frz (tHD te_k))) (fun q3 => (LE.cons SS.lr (LE.cons SS.lr (LE.cons SS.lr LE.nil)))) (fun q3 => (LE.cons SS.lr (LE.cons SS.lr (LE.cons SS.lr LE.nil))))))) tb_nil))))
  (Fits.cons SS.okD (Fits.cons SS.okD (Fits.cons SS.okU Fits.nil)))
def t__law_form_worth (x0 x1 : PyData) : S PyData :=
  (sCallB pySum (sCons (sCompA un2 (sItems (pure x0)) (fun q1 => (sBin pyMul (pure q1.2) ((pure q1.1) >>= fun y2 => ((pure x1) >>= fun y3 => t__law_count y2 y3))))) sNil))
theorem tf__law_form_worth : ∀ x0 x1 : PyData, FnT fm__law_form_worth [.d x0, .d x1] (t__law_form_worth x0 x1) := fun x0 x1 => fn_ok (t := [.d x0, .d x1, .jk, .jk])
  (tr_ret (tFR (te_callBN (tb_cons (tVA (tFR (te_compA (ti_items (td_frz (tHD (vd rfl)))) rfl (pat2 (i := 2) (j := 3) (n := 4) (by decide)) (fun q1 => (td_frz (tFR (te_binN (tVA (tHD (vdB rfl))) (tVA (te_c2 tf__law_count (te_arg (tHD (vd rfl))) (te_arg (tHD (vd rfl))))))))) (fun q1 => (LE.cons SS.lr (LE.cons SS.lr (LE.cons SS.lr (LE.cons SS.lr LE.nil))))) (fun q1 => (LE.cons SS.lr (LE.cons SS.lr (LE.cons SS.lr (LE.cons SS.lr LE.nil)))))))) tb_nil))))
  (Fits.cons SS.okD (Fits.cons SS.okD (Fits.cons SS.okU (Fits.cons SS.okU Fits.nil))))
def tlb__law_put_1 (v : PyData) (q : PyData × PyData) : S (PyData) :=
  ((sTPut v (sBin pyAdd (sTGet2 v (pure q.1) (pure (.int 0))) (pure q.2)) (pure q.1)) >>= fun v2 => pure v2)
def t__law_put (x0 : PyData) : S PyData :=
  ((pure (mkT [])) >>= fun v1 => (((sItems (pure x0)) >>= fun xs_ => foldS (fun w_ x_ => S.opt (un2 x_) >>= tlb__law_put_1 w_) xs_ v1) >>= fun v5 => (sCallB pyTupOf (sCons (sComp un1 (sItems (sTSort v5)) (fun q6 => (sBool (sBin pyNe (sTGet v5 (pure q6)) (pure (.int 0))))) (fun q6 => (sTup (sCons (pure q6) (sCons (sTGet v5 (pure q6)) sNil))))) sNil))))
theorem tf__law_put : ∀ x0 : PyData, FnT fm__law_put [.d x0] (t__law_put x0) := fun x0 => fn_ok (t := [.d x0, .jk, .jk, .jk])
  (tr_seq tf_newT fun v1 => (tr_seq (tf_for (n := 4) (tl := (fun (z_ : PyData) => [.d x0, .dt z_, .jk, .jk])) v1 (ti_items (td_frz (tHD (vd rfl)))) (LE.cons SS.lr (LE.cons SS.lr (LE.cons SS.lr (LE.cons SS.lr LE.nil)))) (fun _ => rfl) (pat2 (i := 2) (j := 3) (n := 4) (by decide)) (fun v2 q3 => (tf_weak (fun (v4 : PyData) => v4) (tf_tput (td_frz (tFR (te_binN (tVA (tHD (te_tget2 rfl (td_frz (tHD (vd rfl))) (td_frz (tHD te_k)) rfl))) (tVA (tHD (vdB rfl)))))) rfl (td_frz (tHD (vd rfl))) rfl) fun v4 => (LE.cons SS.lr (LE.cons SS.lr (LE.cons SS.ldj (LE.cons SS.ldj LE.nil))))))) fun v5 => (tr_ret (tFR (te_callBN (tb_cons (tVA (tFR (te_comp (ti_items (td_frz (tFR (te_tsort rfl)))) rfl (pat1 (i := 2) (n := 4) (by decide)) (fun q6 => (tt_bool (tVA (te_bin (tVA (tHD (te_tget rfl (td_frz (tHD (vd rfl))) rfl))) (tVA (tHD te_k)))))) (fun q6 => (td_frz (tHD (te_tup (ta_cons (te_arg (tHD (vd rfl))) (ta_cons (te_arg (tHD (te_tget rfl (td_frz (tHD (vd rfl))) rfl))) ta_nil)))))) (fun q6 => (LE.cons SS.lr (LE.cons SS.lr (LE.cons SS.lr (LE.cons SS.lr LE.nil))))) (fun q6 => (LE.cons SS.lr (LE.cons SS.lr (LE.cons SS.lr (LE.cons SS.lr LE.nil)))))))) tb_nil))))))
  (Fits.cons SS.okD (Fits.cons SS.okU (Fits.cons SS.okU (Fits.cons SS.okU Fits.nil))))
def tlb__law_form_1 (p3 : PyData) (v : PyData) (q : PyData) : S (PyData) :=
  (((sTup (sCons ((pure p3) >>= fun y6 => t__law_of y6) (sCons ((sLst (sCons (pure (.int 1)) (sCons (pure (.int 1)) (sCons (pure (.int 2)) (sCons (sUn pyNeg (pure (.int 1))) (sCons (sUn pyNeg (pure (.int 3))) (sCons (pure (.int 4)) (sCons (pure (.int 6)) (sCons (sBin pyPow (pure (.int 10)) (pure (.int 30))) sNil))))))))) >>= fun y7 => t__law_of y7) sNil))) >>= fun y8 => appS v y8) >>= fun v9 => pure v9)
def t__law_form (x0 x1 : PyData) : S PyData :=
  ((((pure x0) >>= fun y1 => t__law_little y1) >>= fun y2 => (sLst sNil) >>= fun y3 => pure (y2, y3)) >>= fun v4 => (((sRange1 ((sBin pyAdd (pure x1) (pure (.int 1))) >>= fun y5 => t__law_pick y5)) >>= fun xs_ => foldS (fun w_ x_ => S.opt (un1 x_) >>= (tlb__law_form_1 v4.1) w_) xs_ v4.2) >>= fun v12 => ((pure v12) >>= fun y13 => t__law_put y13)))
theorem tf__law_form : ∀ x0 x1 : PyData, FnT fm__law_form [.src false, .d x0, .d x1] (t__law_form x0 x1) := fun x0 x1 => fn_ok (t := [.src false, .d x0, .d x1, .jk, .jk, .jk])
  (tr_seq (TF.to (tb := fun (v4 : PyData × PyData) => [.src false, .d x0, .d x1, .d v4.1, .ow v4.2, .jk]) (tf_parF stoD stoF (fun _ _ _ _ h => h) (te_arg (te_c1 tf__law_little (te_arg (tHD (vd rfl))))) (te_lst ta_nil)) (fun _ => rfl)) fun v4 => (tr_seq (TF.to (tb := fun (v12 : PyData) => [.src false, .d x0, .d x1, .d v4.1, .ow v12, .jk]) (tf_for (n := 6) (tl := (fun (z_ : PyData) => [.src false, .d x0, .d x1, .d v4.1, .ow z_, .jk])) v4.2 (ti_range1 (tVA (te_s1 tf__law_pick rfl (te_arg (tFR (te_binN (tVA (tHD (vdB rfl))) (tVA (tHD te_k)))))))) (LE.cons SS.lr (LE.cons SS.lr (LE.cons SS.lr (LE.cons SS.lr (LE.cons SS.lr (LE.cons SS.lr LE.nil)))))) (fun _ => rfl) (pat1 (i := 5) (n := 6) (by decide)) (fun v6 q7 => (tf_weak (fun (v11 : PyData) => v11) (tf_append rfl (td_frz (tHD (te_tup (ta_cons (te_arg (te_s1 tf__law_of rfl (te_arg (tHD (vd rfl))))) (ta_cons (te_arg (te_s1 tf__law_of rfl (te_arg (tFR (te_lst (ta_cons (te_arg (tHD te_k)) (ta_cons (te_arg (tHD te_k)) (ta_cons (te_arg (tHD te_k)) (ta_cons (te_arg (te_un (tVA (tHD te_k)))) (ta_cons (te_arg (te_un (tVA (tHD te_k)))) (ta_cons (te_arg (tHD te_k)) (ta_cons (te_arg (tHD te_k)) (ta_cons (te_arg (tFR (te_binN (tVA (tHD te_k)) (tVA (tHD te_k))))) ta_nil))))))))))))) ta_nil))))) rfl) fun v11 => (LE.cons SS.lr (LE.cons SS.lr (LE.cons SS.lr (LE.cons SS.lr (LE.cons SS.lr (LE.cons SS.ldj LE.nil))))))))) (fun _ => rfl)) fun v12 => (tr_ret (te_c1 tf__law_put (te_arg (tHD (vo rfl)))))))
  (Fits.cons SS.okS (Fits.cons SS.okD (Fits.cons SS.okD (Fits.cons SS.okU (Fits.cons SS.okU (Fits.cons SS.okU Fits.nil))))))
def tlb__law_told_1 (v : PyData) (q : PyData × PyData) : S (PyData) :=
  (((sTup (sCons (pure q.1) (sCons (sBin pySub (pure q.2) ((sCallB pySum (sCons (sCompA un2 (sItems (pure v)) (fun q2 => (sBin pyMul (pure q2.2) ((pure q2.1) >>= fun y3 => ((pure q.1) >>= fun y4 => t__law_count y3 y4))))) sNil)) >>= noLstS)) sNil))) >>= fun y5 => appS v y5) >>= fun v6 => pure v6)
def t__law_told (x0 x1 : PyData) : S PyData :=
  ((sLst sNil) >>= fun v1 => (((sZipM (pure x0) (pure x1)) >>= fun xs_ => foldS (fun w_ x_ => S.opt (un2 x_) >>= tlb__law_told_1 w_) xs_ v1) >>= fun v9 => ((pure v9) >>= fun y10 => t__law_put y10)))
theorem tf__law_told : ∀ x0 x1 : PyData, FnT fm__law_told [.d x0, .d x1] (t__law_told x0 x1) := fun x0 x1 => fn_ok (t := [.d x0, .d x1, .jk, .jk, .jk, .jk, .jk])
  (tr_seq (TF.to (tb := fun (v1 : PyData) => [.d x0, .d x1, .ow v1, .jk, .jk, .jk, .jk]) (tf_setF (te_lst ta_nil)) (fun _ => rfl)) fun v1 => (tr_seq (TF.to (tb := fun (v9 : PyData) => [.d x0, .d x1, .ow v9, .jk, .jk, .jk, .jk]) (tf_for (n := 7) (tl := (fun (z_ : PyData) => [.d x0, .d x1, .ow z_, .jk, .jk, .jk, .jk])) v1 (ti_zipM (te_arg (tHD (vd rfl))) (te_arg (tHD (vd rfl)))) (LE.cons SS.lr (LE.cons SS.lr (LE.cons SS.lr (LE.cons SS.lr (LE.cons SS.lr (LE.cons SS.lr (LE.cons SS.lr LE.nil))))))) (fun _ => rfl) (pat2 (i := 3) (j := 4) (n := 7) (by decide)) (fun v2 q3 => (tf_weak (fun (v8 : PyData) => v8) (tf_append rfl (td_frz (tHD (te_tup (ta_cons (te_arg (tHD (vd rfl))) (ta_cons (te_arg (tFR (te_binN (tVA (tHD (vdB rfl))) (tVA (tHD (te_thaw (tFR (te_callBN (tb_cons (tVA (tFR (te_compA (ti_items (td_frz (tHD (vd rfl)))) rfl (pat2 (i := 5) (j := 6) (n := 7) (by decide)) (fun q4 => (td_frz (tFR (te_binN (tVA (tHD (vdB rfl))) (tVA (te_c2 tf__law_count (te_arg (tHD (vd rfl))) (te_arg (tHD (vd rfl))))))))) (fun q4 => (LE.cons SS.lr (LE.cons SS.lr (LE.cons SS.lr (LE.cons SS.lr (LE.cons SS.lr (LE.cons SS.lr (LE.cons SS.lr LE.nil)))))))) (fun q4 => (LE.cons SS.lr (LE.cons SS.lr (LE.cons SS.lr (LE.cons SS.lr (LE.cons SS.lr (LE.cons SS.lr (LE.cons SS.lr LE.nil))))))))))) tb_nil))))))))) ta_nil))))) rfl) fun v8 => (LE.cons SS.lr (LE.cons SS.lr (LE.cons SS.lr (LE.cons SS.ldj (LE.cons SS.ldj (LE.cons SS.lr (LE.cons SS.lr LE.nil)))))))))) (fun _ => rfl)) fun v9 => (tr_ret (te_c1 tf__law_put (te_arg (tHD (vo rfl)))))))
  (Fits.cons SS.okD (Fits.cons SS.okD (Fits.cons SS.okU (Fits.cons SS.okU (Fits.cons SS.okU (Fits.cons SS.okU (Fits.cons SS.okU Fits.nil)))))))
def tlb_law_1 (v : Unit) (q : PyData) : S (Out (Unit) (Unit)) :=
  ((sBin pyIx (sLst (sCons ((pure (.int 4)) >>= fun y2 => t__law_pick y2) (sCons (sBin pyAdd (pure (.int 3)) (sCallB pyInt (sCons (sBin pyEq ((pure (.int 8)) >>= fun y3 => t__law_pick y3) (pure (.int 0))) sNil))) sNil))) (pure q)) >>= fun v4 => (((pure v4) >>= fun y5 => t__law_little y5) >>= fun v6 => ((sCallB pyTupOf (sCons (sCompA un1 (sItems (pure v6)) (fun q7 => ((sLst (sCons (pure (.int 0)) (sCons (pure (.int 0)) (sCons (pure (.int 1)) (sCons (sUn pyNeg (pure (.int 1))) (sCons (pure (.int 2)) (sCons (pure (.int 7)) (sCons (sUn pyNeg (sBin pyPow (pure (.int 10)) (pure (.int 30)))) sNil)))))))) >>= fun y8 => t__law_of y8))) sNil)) >>= fun v9 => (((sCons ((pure v6) >>= fun y10 => ((pure v9) >>= fun y11 => t__law_told y10 y11)) (sCons (sRepr (pure v9)) sNil)) >>= fun xs => S.opt (two xs)) >>= fun v12 => (((pure v4) >>= fun y13 => ((sCallB pyListOf (sCons (pure v9) sNil)) >>= fun y14 => t_form_of_table y13 y14)) >>= fun v15 => (sIf (sOrT (sBool (sBin pyNe (sRepr (sLst (sCons (pure v15) (sCons ((pure v4) >>= fun y16 => ((pure v9) >>= fun y17 => t_form_of_table y16 y17)) sNil)))) (sRepr (sLst (sCons (pure v12.1) (sCons (pure v12.1) sNil)))))) (sBool (sBin (pyIs true) ((pure v15) >>= fun y18 => t_is_form y18) (pure (.bool true))))) ((pure (.bool false)) >>= fun x => pure (.ret x)) (sIf (sOrT (sBool (sBin pyNe (sRepr ((pure v15) >>= fun y19 => ((pure v4) >>= fun y20 => t_table_of y19 y20))) (sRepr (pure v9)))) (sOrT (sBool (sBin pyGt ((pure v15) >>= fun y21 => t_form_size y21) (pure v4))) (sBool (sBin pyNe (sRepr (pure v9)) (pure v12.2))))) ((pure (.bool false)) >>= fun x => pure (.ret x)) (sIf (sBool (sBin pyNe (sComp un2 (sZipM (pure v6) (pure v9)) (fun q22 => (sBool (sBin pyNe ((pure v15) >>= fun y23 => ((pure q22.1) >>= fun y24 => t__law_form_worth y23 y24)) (pure q22.2)))) (fun q22 => (pure q22.1))) (sLst sNil))) ((pure (.bool false)) >>= fun x => pure (.ret x)) (((pure v4) >>= fun y25 => ((pure (.int 4)) >>= fun y26 => t__law_form y25 y26)) >>= fun v27 => ((sCompA un1 (sItems (pure v6)) (fun q28 => ((pure v27) >>= fun y29 => ((pure q28) >>= fun y30 => t__law_form_worth y29 y30)))) >>= fun v31 => (sIf (sOrT (sBool (sBin pyNe (sRepr ((pure v27) >>= fun y32 => ((pure v4) >>= fun y33 => t_table_of y32 y33))) (sRepr (sCallB pyTupOf (sCons (pure v31) sNil))))) (sBool (sBin pyNe (sRepr ((pure v4) >>= fun y34 => ((pure v31) >>= fun y35 => t_form_of_table y34 y35))) (sRepr (pure v27))))) ((pure (.bool false)) >>= fun x => pure (.ret x)) ((sCompA un2 (sZipM (pure v9) (pure v31)) (fun q36 => (sBin pyAdd (pure q36.1) (pure q36.2)))) >>= fun v37 => (sIf (sBool (sBin pyNe (sRepr ((pure v4) >>= fun y38 => ((pure v37) >>= fun y39 => t_form_of_table y38 y39))) (sRepr ((pure v15) >>= fun y40 => ((pure v27) >>= fun y41 => t_form_sum y40 y41))))) ((pure (.bool false)) >>= fun x => pure (.ret x)) (((pure v6) >>= fun y42 => t__law_of y42) >>= fun v43 => ((sComp un1 (sItems (pure v6)) (fun q44 => (sBool (sBin pyLe (sCallB DL.pyLen (sCons (pure q44) sNil)) (sCallB DL.pyLen (sCons (pure v43) sNil))))) (fun q44 => (sCallB pyInt (sCons (sBin pyEq (pure q44) (pure v43)) sNil)))) >>= fun v45 => (sIf (sBool (sBin pyNe (sRepr ((sTup (sCons (sTup (sCons (pure v43) (sCons (pure (.int 1)) sNil))) sNil)) >>= fun y46 => ((sCallB DL.pyLen (sCons (pure v43) sNil)) >>= fun y47 => t_table_of y46 y47))) (sRepr (sCallB pyTupOf (sCons (pure v45) sNil))))) ((pure (.bool false)) >>= fun x => pure (.ret x)) ((sIf (sBool (sBin pyGt (pure v4) (pure (.int 0)))) (sLst (sCons (sBin pyIx (pure v9) (pure (.int 0))) (sCons (sBin pySub (sBin pyIx (pure v9) (pure (.int 1))) (sBin pyIx (pure v9) (pure (.int 0)))) sNil))) (sLst (sCons (sBin pyIx (pure v9) (pure (.int 0))) sNil))) >>= fun v48 => (sIf (sBool (sBin pyNe (sCompA un1 (sRange1 (sCallB DL.pyLen (sCons (pure v48) sNil))) (fun q49 => (sGetE (sDictT (sCallB pyListOf (sCons (pure v15) sNil))) (sRgL .tuple (sRg1 (pure q49))) (pure (.int 0))))) (pure v48))) ((pure (.bool false)) >>= fun x => pure (.ret x)) (pure (.nxt ()))))))))))))))))))))
def t_law (ns : List Int) : S PyData :=
  ((srcS fm__law_open_cells ns) >>= fun v1 => (((sRange1 (pure (.int 2))) >>= fun xs_ => forO (κ := Empty) (fun w_ x_ => S.opt (un1 x_) >>= tlb_law_1 w_) xs_ ()) >>= outR fun v52 => (sBin pyEq ((pure (.int 2)) >>= fun y53 => ((sTup (sCons (pure (.int 0)) (sCons (pure (.int 1)) (sCons (pure (.int 4)) (sCons (pure (.int 4)) sNil))))) >>= fun y54 => t_form_of_table y53 y54)) (sTup (sCons (sTup (sCons (sTup (sCons (pure (.int 0)) sNil)) (sCons (pure (.int 1)) sNil))) (sCons (sTup (sCons (sTup (sCons (pure (.int 0)) (sCons (pure (.int 1)) sNil))) (sCons (pure (.int 2)) sNil))) (sCons (sTup (sCons (sTup (sCons (pure (.int 1)) (sCons (pure (.int 0)) sNil))) (sCons (pure (.int 2)) sNil))) sNil)))))))
theorem tf_law (ns : List Int) : FnT fm_law [.scr ns] (t_law ns) := fn_ok (t := [.scr ns, .jk, .jk, .jk, .jk, .jk, .jk, .jk, .jk, .jk, .jk, .jk, .jk, .jk, .jk, .jk, .jk, .jk, .jk, .jk])
  (tr_seq (TF.to (tb := fun (v1 : Unit) => [.scr ns, .src false, .jk, .jk, .jk, .jk, .jk, .jk, .jk, .jk, .jk, .jk, .jk, .jk, .jk, .jk, .jk, .jk, .jk, .jk]) (tf_source rfl) (fun _ => rfl)) fun v1 => (tr_out (κ := Empty) (tl := nofun) (tb_for (n := 20) (tn := (fun (z_ : Unit) => [.scr ns, .src false, .jk, .jk, .jk, .jk, .jk, .jk, .jk, .jk, .jk, .jk, .jk, .jk, .jk, .jk, .jk, .jk, .jk, .jk])) () (ti_range1 (tVA (tHD te_k))) (LE.cons SS.lr (LE.cons SS.lr (LE.cons SS.lr (LE.cons SS.lr (LE.cons SS.lr (LE.cons SS.lr (LE.cons SS.lr (LE.cons SS.lr (LE.cons SS.lr (LE.cons SS.lr (LE.cons SS.lr (LE.cons SS.lr (LE.cons SS.lr (LE.cons SS.lr (LE.cons SS.lr (LE.cons SS.lr (LE.cons SS.lr (LE.cons SS.lr (LE.cons SS.lr (LE.cons SS.lr LE.nil)))))))))))))))))))) (fun _ => rfl) (pat1 (i := 2) (n := 20) (by decide)) (fun v2 q3 => (tb_seq (TF.to (tb := fun (v6 : PyData) => [.scr ns, .src false, .d q3, .va v6, .jk, .jk, .jk, .jk, .jk, .jk, .jk, .jk, .jk, .jk, .jk, .jk, .jk, .jk, .jk, .jk]) (tf_setV (te_bin (tVA (tFR (te_lst (ta_cons (te_arg (te_s1 tf__law_pick rfl (te_arg (tHD te_k)))) (ta_cons (te_arg (tFR (te_binN (tVA (tHD te_k)) (tVA (tFR (te_callBN (tb_cons (tVA (te_bin (tVA (te_s1 tf__law_pick rfl (te_arg (tHD te_k)))) (tVA (tHD te_k)))) tb_nil))))))) ta_nil))))) (tVA (tHD (vdB rfl))))) (fun _ => rfl)) fun v6 => (tb_seq (TF.to (tb := fun (v8 : PyData) => [.scr ns, .src false, .d q3, .d v6, .d v8, .jk, .jk, .jk, .jk, .jk, .jk, .jk, .jk, .jk, .jk, .jk, .jk, .jk, .jk, .jk]) (tf_setD (te_arg (te_c1 tf__law_little (te_arg (tHD (vv rfl)))))) (fun _ => rfl)) fun v8 => (tb_seq (TF.to (tb := fun (v11 : PyData) => [.scr ns, .src false, .d q3, .d v6, .d v8, .va v11, .jk, .jk, .jk, .jk, .jk, .jk, .jk, .jk, .jk, .jk, .jk, .jk, .jk, .jk]) (tf_setV (tFR (te_callBN (tb_cons (tVA (tFR (te_compA (ti_items (td_frz (tHD (vd rfl)))) rfl (pat1 (i := 6) (n := 20) (by decide)) (fun q9 => (td_frz (te_s1 tf__law_of rfl (te_arg (tFR (te_lst (ta_cons (te_arg (tHD te_k)) (ta_cons (te_arg (tHD te_k)) (ta_cons (te_arg (tHD te_k)) (ta_cons (te_arg (te_un (tVA (tHD te_k)))) (ta_cons (te_arg (tHD te_k)) (ta_cons (te_arg (tHD te_k)) (ta_cons (te_arg (te_un (tVA (tFR (te_binN (tVA (tHD te_k)) (tVA (tHD te_k))))))) ta_nil))))))))))))) (fun q9 => (LE.cons SS.lr (LE.cons SS.lr (LE.cons SS.lr (LE.cons SS.lr (LE.cons SS.lr (LE.cons SS.lr (LE.cons SS.lr (LE.cons SS.lr (LE.cons SS.lr (LE.cons SS.lr (LE.cons SS.lr (LE.cons SS.lr (LE.cons SS.lr (LE.cons SS.lr (LE.cons SS.lr (LE.cons SS.lr (LE.cons SS.lr (LE.cons SS.lr (LE.cons SS.lr (LE.cons SS.lr LE.nil))))))))))))))))))))) (fun q9 => (LE.cons SS.lr (LE.cons SS.lr (LE.cons SS.lr (LE.cons SS.lr (LE.cons SS.lr (LE.cons SS.lr (LE.cons SS.lr (LE.cons SS.lr (LE.cons SS.lr (LE.cons SS.lr (LE.cons SS.lr (LE.cons SS.lr (LE.cons SS.lr (LE.cons SS.lr (LE.cons SS.lr (LE.cons SS.lr (LE.cons SS.lr (LE.cons SS.lr (LE.cons SS.lr (LE.cons SS.lr LE.nil)))))))))))))))))))))))) tb_nil)))) (fun _ => rfl)) fun v11 => (tb_seq (TF.to (tb := fun (v14 : PyData × PyData) => [.scr ns, .src false, .d q3, .d v6, .d v8, .d v11, .jk, .d v14.1, .d v14.2, .jk, .jk, .jk, .jk, .jk, .jk, .jk, .jk, .jk, .jk, .jk]) (tf_par (ta_cons (te_arg (te_c2 tf__law_told (te_arg (tHD (vd rfl))) (te_arg (tHD (vv rfl))))) (ta_cons (te_arg (tHD (te_repr (td_frz (tHD (vd rfl)))))) ta_nil))) (fun _ => rfl)) fun v14 => (tb_seq (TF.to (tb := fun (v17 : PyData) => [.scr ns, .src false, .d q3, .d v6, .d v8, .d v11, .jk, .d v14.1, .d v14.2, .d v17, .jk, .jk, .jk, .jk, .jk, .jk, .jk, .jk, .jk, .jk]) (tf_setD (te_arg (te_c2 tf_form_of_table (te_arg (tHD (vd rfl))) (te_arg (tFR (te_callBN (tb_cons (tVA (tHD (vdB rfl))) tb_nil))))))) (fun _ => rfl)) fun v17 => (tb_if1 (tt_or (tt_bool (tVA (te_bin (tVA (tHD (te_repr (td_frz (tFR (te_lst (ta_cons (te_arg (tHD (vd rfl))) (ta_cons (te_arg (te_c2 tf_form_of_table (te_arg (tHD (vd rfl))) (te_arg (tHD (vd rfl))))) ta_nil)))))))) (tVA (tHD (te_repr (td_frz (tFR (te_lst (ta_cons (te_arg (tHD (vd rfl))) (ta_cons (te_arg (tHD (vd rfl))) ta_nil))))))))))) (tt_bool (tVA (te_bin (tVA (te_c1 tf_is_form (te_arg (tHD (vd rfl))))) (tVA (tHD te_k)))))) (tr_ret (tHD te_k)) (tb_if1 (tt_or (tt_bool (tVA (te_bin (tVA (tHD (te_repr (td_frz (te_c2 tf_table_of (te_arg (tHD (vd rfl))) (te_arg (tHD (vd rfl)))))))) (tVA (tHD (te_repr (td_frz (tHD (vd rfl))))))))) (tt_or (tt_bool (tVA (te_bin (tVA (te_c1 tf_form_size (te_arg (tHD (vd rfl))))) (tVA (tHD (vdB rfl)))))) (tt_bool (tVA (te_bin (tVA (tHD (te_repr (td_frz (tHD (vd rfl)))))) (tVA (tHD (vdB rfl)))))))) (tr_ret (tHD te_k)) (tb_if1 (tt_bool (tVA (te_bin (tVA (tFR (te_comp (ti_zipM (te_arg (tHD (vd rfl))) (te_arg (tHD (vd rfl)))) rfl (pat2 (i := 6) (j := 10) (n := 20) (by decide)) (fun q24 => (tt_bool (tVA (te_bin (tVA (te_c2 tf__law_form_worth (te_arg (tHD (vd rfl))) (te_arg (tHD (vd rfl))))) (tVA (tHD (vdB rfl))))))) (fun q24 => (td_frz (tHD (vd rfl)))) (fun q24 => (LE.cons SS.lr (LE.cons SS.lr (LE.cons SS.lr (LE.cons SS.lr (LE.cons SS.lr (LE.cons SS.lr (LE.cons SS.lr (LE.cons SS.lr (LE.cons SS.lr (LE.cons SS.lr (LE.cons SS.lr (LE.cons SS.lr (LE.cons SS.lr (LE.cons SS.lr (LE.cons SS.lr (LE.cons SS.lr (LE.cons SS.lr (LE.cons SS.lr (LE.cons SS.lr (LE.cons SS.lr LE.nil))))))))))))))))))))) (fun q24 => (LE.cons SS.lr (LE.cons SS.lr (LE.cons SS.lr (LE.cons SS.lr (LE.cons SS.lr (LE.cons SS.lr (LE.cons SS.lr (LE.cons SS.lr (LE.cons SS.lr (LE.cons SS.lr (LE.cons SS.lr (LE.cons SS.lr (LE.cons SS.lr (LE.cons SS.lr (LE.cons SS.lr (LE.cons SS.lr (LE.cons SS.lr (LE.cons SS.lr (LE.cons SS.lr (LE.cons SS.lr LE.nil)))))))))))))))))))))))) (tVA (tFR (te_lst ta_nil)))))) (tr_ret (tHD te_k)) (tb_seq (TF.to (tb := fun (v29 : PyData) => [.scr ns, .src false, .d q3, .d v6, .d v8, .d v11, .jk, .d v14.1, .d v14.2, .d v17, .jk, .d v29, .jk, .jk, .jk, .jk, .jk, .jk, .jk, .jk]) (tf_setD (te_arg (te_s2 tf__law_form rfl (te_arg (tHD (vd rfl))) (te_arg (tHD te_k))))) (fun _ => rfl)) fun v29 => (tb_seq (TF.to (tb := fun (v33 : PyData) => [.scr ns, .src false, .d q3, .d v6, .d v8, .d v11, .jk, .d v14.1, .d v14.2, .d v17, .jk, .d v29, .d v33, .jk, .jk, .jk, .jk, .jk, .jk, .jk]) (tf_setD (te_arg (tFR (te_compA (ti_items (td_frz (tHD (vd rfl)))) rfl (pat1 (i := 6) (n := 20) (by decide)) (fun q30 => (td_frz (te_c2 tf__law_form_worth (te_arg (tHD (vd rfl))) (te_arg (tHD (vd rfl)))))) (fun q30 => (LE.cons SS.lr (LE.cons SS.lr (LE.cons SS.lr (LE.cons SS.lr (LE.cons SS.lr (LE.cons SS.lr (LE.cons SS.lr (LE.cons SS.lr (LE.cons SS.lr (LE.cons SS.lr (LE.cons SS.lr (LE.cons SS.lr (LE.cons SS.lr (LE.cons SS.lr (LE.cons SS.lr (LE.cons SS.lr (LE.cons SS.lr (LE.cons SS.lr (LE.cons SS.lr (LE.cons SS.lr LE.nil))))))))))))))))))))) (fun q30 => (LE.cons SS.lr (LE.cons SS.lr (LE.cons SS.lr (LE.cons SS.lr (LE.cons SS.lr (LE.cons SS.lr (LE.cons SS.lr (LE.cons SS.lr (LE.cons SS.lr (LE.cons SS.lr (LE.cons SS.lr (LE.cons SS.lr (LE.cons SS.lr (LE.cons SS.lr (LE.cons SS.lr (LE.cons SS.lr (LE.cons SS.lr (LE.cons SS.lr (LE.cons SS.lr (LE.cons SS.lr LE.nil))))))))))))))))))))))))) (fun _ => rfl)) fun v33 => (tb_if1 (tt_or (tt_bool (tVA (te_bin (tVA (tHD (te_repr (td_frz (te_c2 tf_table_of (te_arg (tHD (vd rfl))) (te_arg (tHD (vd rfl)))))))) (tVA (tHD (te_repr (td_frz (tFR (te_callBN (tb_cons (tVA (tHD (vdB rfl))) tb_nil)))))))))) (tt_bool (tVA (te_bin (tVA (tHD (te_repr (td_frz (te_c2 tf_form_of_table (te_arg (tHD (vd rfl))) (te_arg (tHD (vd rfl)))))))) (tVA (tHD (te_repr (td_frz (tHD (vd rfl)))))))))) (tr_ret (tHD te_k)) (tb_seq (TF.to (tb := fun (v39 : PyData) => [.scr ns, .src false, .d q3, .d v6, .d v8, .d v11, .jk, .d v14.1, .d v14.2, .d v17, .jk, .d v29, .d v33, .d v39, .jk, .jk, .jk, .jk, .jk, .jk]) (tf_setD (te_arg (tFR (te_compA (ti_zipM (te_arg (tHD (vd rfl))) (te_arg (tHD (vd rfl)))) rfl (pat2 (i := 14) (j := 15) (n := 20) (by decide)) (fun q38 => (td_frz (tFR (te_binN (tVA (tHD (vdB rfl))) (tVA (tHD (vdB rfl))))))) (fun q38 => (LE.cons SS.lr (LE.cons SS.lr (LE.cons SS.lr (LE.cons SS.lr (LE.cons SS.lr (LE.cons SS.lr (LE.cons SS.lr (LE.cons SS.lr (LE.cons SS.lr (LE.cons SS.lr (LE.cons SS.lr (LE.cons SS.lr (LE.cons SS.lr (LE.cons SS.lr (LE.cons SS.lr (LE.cons SS.lr (LE.cons SS.lr (LE.cons SS.lr (LE.cons SS.lr (LE.cons SS.lr LE.nil))))))))))))))))))))) (fun q38 => (LE.cons SS.lr (LE.cons SS.lr (LE.cons SS.lr (LE.cons SS.lr (LE.cons SS.lr (LE.cons SS.lr (LE.cons SS.lr (LE.cons SS.lr (LE.cons SS.lr (LE.cons SS.lr (LE.cons SS.lr (LE.cons SS.lr (LE.cons SS.lr (LE.cons SS.lr (LE.cons SS.lr (LE.cons SS.lr (LE.cons SS.lr (LE.cons SS.lr (LE.cons SS.lr (LE.cons SS.lr LE.nil))))))))))))))))))))))))) (fun _ => rfl)) fun v39 => (tb_if1 (tt_bool (tVA (te_bin (tVA (tHD (te_repr (td_frz (te_c2 tf_form_of_table (te_arg (tHD (vd rfl))) (te_arg (tHD (vd rfl)))))))) (tVA (tHD (te_repr (td_frz (te_c2 tf_form_sum (te_arg (tHD (vd rfl))) (te_arg (tHD (vd rfl))))))))))) (tr_ret (tHD te_k)) (tb_seq (TF.to (tb := fun (v45 : PyData) => [.scr ns, .src false, .d q3, .d v6, .d v8, .d v11, .jk, .d v14.1, .d v14.2, .d v17, .jk, .d v29, .d v33, .d v39, .jk, .jk, .d v45, .jk, .jk, .jk]) (tf_setD (te_arg (te_s1 tf__law_of rfl (te_arg (tHD (vd rfl)))))) (fun _ => rfl)) fun v45 => (tb_seq (TF.to (tb := fun (v47 : PyData) => [.scr ns, .src false, .d q3, .d v6, .d v8, .d v11, .jk, .d v14.1, .d v14.2, .d v17, .jk, .d v29, .d v33, .d v39, .jk, .jk, .d v45, .d v47, .jk, .jk]) (tf_setD (te_arg (tFR (te_comp (ti_items (td_frz (tHD (vd rfl)))) rfl (pat1 (i := 6) (n := 20) (by decide)) (fun q46 => (tt_bool (tVA (te_bin (tVA (tFR (te_callBN (tb_cons (tVA (tHD (vdB rfl))) tb_nil)))) (tVA (tFR (te_callBN (tb_cons (tVA (tHD (vdB rfl))) tb_nil)))))))) (fun q46 => (td_frz (tFR (te_callBN (tb_cons (tVA (te_bin (tVA (tHD (vdB rfl))) (tVA (tHD (vdB rfl))))) tb_nil))))) (fun q46 => (LE.cons SS.lr (LE.cons SS.lr (LE.cons SS.lr (LE.cons SS.lr (LE.cons SS.lr (LE.cons SS.lr (LE.cons SS.lr (LE.cons SS.lr (LE.cons SS.lr (LE.cons SS.lr (LE.cons SS.lr (LE.cons SS.lr (LE.cons SS.lr (LE.cons SS.lr (LE.cons SS.lr (LE.cons SS.lr (LE.cons SS.lr (LE.cons SS.lr (LE.cons SS.lr (LE.cons SS.lr LE.nil))))))))))))))))))))) (fun q46 => (LE.cons SS.lr (LE.cons SS.lr (LE.cons SS.lr (LE.cons SS.lr (LE.cons SS.lr (LE.cons SS.lr (LE.cons SS.lr (LE.cons SS.lr (LE.cons SS.lr (LE.cons SS.lr (LE.cons SS.lr (LE.cons SS.lr (LE.cons SS.lr (LE.cons SS.lr (LE.cons SS.lr (LE.cons SS.lr (LE.cons SS.lr (LE.cons SS.lr (LE.cons SS.lr (LE.cons SS.lr LE.nil))))))))))))))))))))))))) (fun _ => rfl)) fun v47 => (tb_if1 (tt_bool (tVA (te_bin (tVA (tHD (te_repr (td_frz (te_c2 tf_table_of (te_arg (tHD (te_tup (ta_cons (te_arg (tHD (te_tup (ta_cons (te_arg (tHD (vd rfl))) (ta_cons (te_arg (tHD te_k)) ta_nil))))) ta_nil)))) (te_arg (tFR (te_callBN (tb_cons (tVA (tHD (vdB rfl))) tb_nil))))))))) (tVA (tHD (te_repr (td_frz (tFR (te_callBN (tb_cons (tVA (tHD (vdB rfl))) tb_nil)))))))))) (tr_ret (tHD te_k)) (tb_seq (TF.to (tb := fun (v50 : PyData) => [.scr ns, .src false, .d q3, .d v6, .d v8, .d v11, .jk, .d v14.1, .d v14.2, .d v17, .jk, .d v29, .d v33, .d v39, .jk, .jk, .d v45, .d v47, .d v50, .jk]) (tf_setD (te_arg (tFR (te_if (tt_bool (tVA (te_bin (tVA (tHD (vdB rfl))) (tVA (tHD te_k))))) (te_lst (ta_cons (te_arg (te_bin (tVA (tHD (vdB rfl))) (tVA (tHD te_k)))) (ta_cons (te_arg (tFR (te_binN (tVA (te_bin (tVA (tHD (vdB rfl))) (tVA (tHD te_k)))) (tVA (te_bin (tVA (tHD (vdB rfl))) (tVA (tHD te_k))))))) ta_nil))) (te_lst (ta_cons (te_arg (te_bin (tVA (tHD (vdB rfl))) (tVA (tHD te_k)))) ta_nil)))))) (fun _ => rfl)) fun v50 => (tb_if (tt_bool (tVA (te_bin (tVA (tFR (te_compA (ti_range1 (tVA (tFR (te_callBN (tb_cons (tVA (tHD (vdB rfl))) tb_nil))))) rfl (pat1 (i := 19) (n := 20) (by decide)) (fun q51 => (td_frz (tHD (te_getE (te_dictT (tVA (tFR (te_callBN (tb_cons (tVA (tHD (vdB rfl))) tb_nil))))) (td_frz (tHD (te_rgT (tr_1 (td_frz (tHD (vd rfl))))))) (td_frz (tHD te_k)))))) (fun q51 => (LE.cons SS.lr (LE.cons SS.lr (LE.cons SS.lr (LE.cons SS.lr (LE.cons SS.lr (LE.cons SS.lr (LE.cons SS.lr (LE.cons SS.lr (LE.cons SS.lr (LE.cons SS.lr (LE.cons SS.lr (LE.cons SS.lr (LE.cons SS.lr (LE.cons SS.lr (LE.cons SS.lr (LE.cons SS.lr (LE.cons SS.lr (LE.cons SS.lr (LE.cons SS.lr (LE.cons SS.lr LE.nil))))))))))))))))))))) (fun q51 => (LE.cons SS.lr (LE.cons SS.lr (LE.cons SS.lr (LE.cons SS.lr (LE.cons SS.lr (LE.cons SS.lr (LE.cons SS.lr (LE.cons SS.lr (LE.cons SS.lr (LE.cons SS.lr (LE.cons SS.lr (LE.cons SS.lr (LE.cons SS.lr (LE.cons SS.lr (LE.cons SS.lr (LE.cons SS.lr (LE.cons SS.lr (LE.cons SS.lr (LE.cons SS.lr (LE.cons SS.lr LE.nil)))))))))))))))))))))))) (tVA (tHD (vdB rfl)))))) (tb_ret (tr_ret (tHD te_k))) (tb_nx (v := ()) (LE.cons SS.lr (LE.cons SS.lr (LE.cons SS.ldj (LE.cons SS.ldj (LE.cons SS.ldj (LE.cons SS.ldj (LE.cons SS.lr (LE.cons SS.ldj (LE.cons SS.ldj (LE.cons SS.ldj (LE.cons SS.lr (LE.cons SS.ldj (LE.cons SS.ldj (LE.cons SS.ldj (LE.cons SS.lr (LE.cons SS.lr (LE.cons SS.ldj (LE.cons SS.ldj (LE.cons SS.ldj (LE.cons SS.lr LE.nil))))))))))))))))))))))))))))))))))))))))) fun v52 => (tr_ret (te_bin (tVA (te_c2 tf_form_of_table (te_arg (tHD te_k)) (te_arg (tHD (te_tup (ta_cons (te_arg (tHD te_k)) (ta_cons (te_arg (tHD te_k)) (ta_cons (te_arg (tHD te_k)) (ta_cons (te_arg (tHD te_k)) ta_nil))))))))) (tVA (tHD (te_tup (ta_cons (te_arg (tHD (te_tup (ta_cons (te_arg (tHD (te_tup (ta_cons (te_arg (tHD te_k)) ta_nil)))) (ta_cons (te_arg (tHD te_k)) ta_nil))))) (ta_cons (te_arg (tHD (te_tup (ta_cons (te_arg (tHD (te_tup (ta_cons (te_arg (tHD te_k)) (ta_cons (te_arg (tHD te_k)) ta_nil))))) (ta_cons (te_arg (tHD te_k)) ta_nil))))) (ta_cons (te_arg (tHD (te_tup (ta_cons (te_arg (tHD (te_tup (ta_cons (te_arg (tHD te_k)) (ta_cons (te_arg (tHD te_k)) ta_nil))))) (ta_cons (te_arg (tHD te_k)) ta_nil))))) ta_nil))))))))))
  (Fits.cons SS.okC (Fits.cons SS.okU (Fits.cons SS.okU (Fits.cons SS.okU (Fits.cons SS.okU (Fits.cons SS.okU (Fits.cons SS.okU (Fits.cons SS.okU (Fits.cons SS.okU (Fits.cons SS.okU (Fits.cons SS.okU (Fits.cons SS.okU (Fits.cons SS.okU (Fits.cons SS.okU (Fits.cons SS.okU (Fits.cons SS.okU (Fits.cons SS.okU (Fits.cons SS.okU (Fits.cons SS.okU (Fits.cons SS.okU Fits.nil))))))))))))))))))))
end LGk30
namespace LR
open PySem L2 DL
def t_is_integer (x0 : PyData) : S PyData :=
  (sAndV (sIsi "int" (pure x0)) (sNotV (sIsi "bool" (pure x0))))
def t_is_fraction (x0 : PyData) : S PyData :=
  (sIf (sOrT (sNotT (sBool (sIsi "tuple" (pure x0)))) (sOrT (sBool (sBin pyNe (sCallB DL.pyLen (sCons (pure x0) sNil)) (pure (.int 2)))) (sNotT (sBool (sCallB pyAll (sCons (sCompA un1 (sItems (pure x0)) (fun q1 => ((pure q1) >>= fun y2 => t_is_integer y2))) sNil)))))) (pure (.bool false)) (sAndV (sBin pyGt (sBin pyIx (pure x0) (pure (.int 1))) (pure (.int 0))) (sBin pyEq (sCallB pyGcd (sCons (sBin pyIx (pure x0) (pure (.int 0))) (sCons (sBin pyIx (pure x0) (pure (.int 1))) sNil))) (pure (.int 1)))))
def t_fraction_of (x0 x1 : PyData) : S PyData :=
  ((sCallB pyGcd (sCons (pure x0) (sCons (pure x1) sNil))) >>= fun v1 => (sIf (sBool (sBin pyGt (pure x1) (pure (.int 0)))) (sTup (sCons (sBin pyFloorDiv (pure x0) (pure v1)) (sCons (sBin pyFloorDiv (pure x1) (pure v1)) sNil))) (sTup (sCons (sBin pyFloorDiv (sUn pyNeg (pure x0)) (pure v1)) (sCons (sBin pyFloorDiv (sUn pyNeg (pure x1)) (pure v1)) sNil)))))
def t_fraction_sum (x0 x1 : PyData) : S PyData :=
  ((sBin pyAdd (sBin pyMul (sBin pyIx (pure x0) (pure (.int 0))) (sBin pyIx (pure x1) (pure (.int 1)))) (sBin pyMul (sBin pyIx (pure x1) (pure (.int 0))) (sBin pyIx (pure x0) (pure (.int 1))))) >>= fun y1 => ((sBin pyMul (sBin pyIx (pure x0) (pure (.int 1))) (sBin pyIx (pure x1) (pure (.int 1)))) >>= fun y2 => t_fraction_of y1 y2))
def t_fraction_less (x0 x1 : PyData) : S PyData :=
  ((sBin pySub (sBin pyMul (sBin pyIx (pure x0) (pure (.int 0))) (sBin pyIx (pure x1) (pure (.int 1)))) (sBin pyMul (sBin pyIx (pure x1) (pure (.int 0))) (sBin pyIx (pure x0) (pure (.int 1))))) >>= fun y1 => ((sBin pyMul (sBin pyIx (pure x0) (pure (.int 1))) (sBin pyIx (pure x1) (pure (.int 1)))) >>= fun y2 => t_fraction_of y1 y2))
def t_fraction_times (x0 x1 : PyData) : S PyData :=
  ((sBin pyMul (sBin pyIx (pure x0) (pure (.int 0))) (sBin pyIx (pure x1) (pure (.int 0)))) >>= fun y1 => ((sBin pyMul (sBin pyIx (pure x0) (pure (.int 1))) (sBin pyIx (pure x1) (pure (.int 1)))) >>= fun y2 => t_fraction_of y1 y2))
def t_fraction_by (x0 x1 : PyData) : S PyData :=
  ((sBin pyMul (sBin pyIx (pure x0) (pure (.int 0))) (sBin pyIx (pure x1) (pure (.int 1)))) >>= fun y1 => ((sBin pyMul (sBin pyIx (pure x0) (pure (.int 1))) (sBin pyIx (pure x1) (pure (.int 0)))) >>= fun y2 => t_fraction_of y1 y2))
def tlb_choose_1 (p0 : PyData) (v : PyData) (q : PyData) : S (PyData) :=
  ((sBin pyFloorDiv (sBin pyMul (pure v) (sBin pySub (pure p0) (pure q))) (sBin pyAdd (pure q) (pure (.int 1)))) >>= fun v2 => pure v2)
def t_choose (x0 x1 : PyData) : S PyData :=
  ((pure (.int 1)) >>= fun v1 => (((sRange1 (pure x1)) >>= fun xs_ => foldS (fun w_ x_ => S.opt (un1 x_) >>= (tlb_choose_1 x0) w_) xs_ v1) >>= fun v5 => (pure v5)))
def t_is_row (x0 : PyData) : S PyData :=
  (sIf (sOrT (sNotT (sBool (sIsi "tuple" (pure x0)))) (sNotT (sBool (sCallB pyAll (sCons (sCompA un1 (sItems (pure x0)) (fun q1 => ((pure q1) >>= fun y2 => t_is_fraction y2))) sNil))))) (pure (.bool false)) (sOrV (sBin pyEq (pure x0) (sTup sNil)) (sBin pyNe (sBin pyIx (pure x0) (sUn pyNeg (pure (.int 1)))) (pure (.tuple [(.int 0), (.int 1)])))))
def twc_row_of_1 (p0 : PyData) (v : PyData) : S Bool :=
  (sAndT (sBool (sBin pyGt (pure v) (pure (.int 0)))) (sBool (sBin pyEq (sBin pyIx (pure p0) (sBin pySub (pure v) (pure (.int 1)))) (pure (.tuple [(.int 0), (.int 1)])))))
def twb_row_of_2 (v : PyData) : S (PyData) :=
  ((sBin pySub (pure v) (pure (.int 1))) >>= fun v3 => pure v3)
def fuel_row_of : Nat := 1000000
def t_row_of (x0 : PyData) : S PyData :=
  ((sCallB DL.pyLen (sCons (pure x0) sNil)) >>= fun v1 => ((whileS (twc_row_of_1 x0) twb_row_of_2 fuel_row_of v1) >>= fun v4 => (sCallB pyTupOf (sCons (sSl (pure x0) (pure none) ((pure v4) >>= partS)) sNil))))
def t_wide (x0 x1 : PyData) : S PyData :=
  (sLst (sStar (pure x0) (sStar (sBin pyMul (sLst (sCons (pure (.tuple [(.int 0), (.int 1)])) sNil)) (sBin pySub (pure x1) (sCallB DL.pyLen (sCons (pure x0) sNil)))) sNil)))
def t_row_sum (x0 x1 : PyData) : S PyData :=
  ((sCallB pyMax2 (sCons (sCallB DL.pyLen (sCons (pure x0) sNil)) (sCons (sCallB DL.pyLen (sCons (pure x1) sNil)) sNil))) >>= fun v1 => ((sCompA un2 (sZip ((pure x0) >>= fun y2 => ((pure v1) >>= fun y3 => t_wide y2 y3)) ((pure x1) >>= fun y4 => ((pure v1) >>= fun y5 => t_wide y4 y5))) (fun q6 => ((pure q6.1) >>= fun y7 => ((pure q6.2) >>= fun y8 => t_fraction_sum y7 y8)))) >>= fun y9 => t_row_of y9))
def t_row_less (x0 x1 : PyData) : S PyData :=
  ((sCallB pyMax2 (sCons (sCallB DL.pyLen (sCons (pure x0) sNil)) (sCons (sCallB DL.pyLen (sCons (pure x1) sNil)) sNil))) >>= fun v1 => ((sCompA un2 (sZip ((pure x0) >>= fun y2 => ((pure v1) >>= fun y3 => t_wide y2 y3)) ((pure x1) >>= fun y4 => ((pure v1) >>= fun y5 => t_wide y4 y5))) (fun q6 => ((pure q6.1) >>= fun y7 => ((pure q6.2) >>= fun y8 => t_fraction_less y7 y8)))) >>= fun y9 => t_row_of y9))
def t_row_scaled (x0 x1 : PyData) : S PyData :=
  ((sCompA un1 (sItems (pure x1)) (fun q1 => ((pure x0) >>= fun y2 => ((pure q1) >>= fun y3 => t_fraction_times y2 y3)))) >>= fun y4 => t_row_of y4)
def tlb_row_times_1 (p3 : PyData) (p4 : PyData) (p5 : PyData) (p6 : PyData) (v : PyData) (q : PyData) : S (PyData) :=
  ((sBin pyMul ((pure q) >>= fun y2 => ((pure p3) >>= fun y3 => t_choose y2 y3)) ((pure p3) >>= fun y4 => ((sBin pySub (sBin pyAdd (pure p3) (pure p5)) (pure q)) >>= fun y5 => t_choose y4 y5))) >>= fun v6 => ((((sBin pyIx (pure v) (pure q)) >>= fun y11 => (((sTup (sCons (pure v6) (sCons (pure (.int 1)) sNil))) >>= fun y9 => (((pure p4) >>= fun y7 => ((pure p6) >>= fun y8 => t_fraction_times y7 y8)) >>= fun y10 => t_fraction_times y9 y10)) >>= fun y12 => t_fraction_sum y11 y12)) >>= fun y13 => (pure q) >>= fun y14 => putS v y14 y13) >>= fun v15 => pure v15))
def tlb_row_times_2 (p3 : PyData) (p4 : PyData) (v : PyData) (q : PyData × PyData) : S (PyData) :=
  (((sRange2 (sCallB pyMax2 (sCons (pure p3) (sCons (pure q.1) sNil))) (sBin pyAdd (sBin pyAdd (pure p3) (pure q.1)) (pure (.int 1)))) >>= fun xs_ => foldS (fun w_ x_ => S.opt (un1 x_) >>= (tlb_row_times_1 p3 p4 q.1 q.2) w_) xs_ v) >>= fun v18 => pure v18)
def tlb_row_times_3 (p1 : PyData) (v : PyData) (q : PyData × PyData) : S (PyData) :=
  (((sEnum (pure p1)) >>= fun xs_ => foldS (fun w_ x_ => S.opt (un2 x_) >>= (tlb_row_times_2 q.1 q.2) w_) xs_ v) >>= fun v21 => pure v21)
def t_row_times (x0 x1 : PyData) : S PyData :=
  ((sBin pyMul (sLst (sCons (pure (.tuple [(.int 0), (.int 1)])) sNil)) (sBin pyAdd (sCallB DL.pyLen (sCons (pure x0) sNil)) (sCallB DL.pyLen (sCons (pure x1) sNil)))) >>= fun v1 => (((sEnum (pure x0)) >>= fun xs_ => foldS (fun w_ x_ => S.opt (un2 x_) >>= (tlb_row_times_3 x1) w_) xs_ v1) >>= fun v24 => ((pure v24) >>= fun y25 => t_row_of y25)))
def tlb_row_at_1 (p1 : PyData) (v : PyData) (q : PyData × PyData) : S (PyData) :=
  (((pure v) >>= fun y6 => (((sTup (sCons ((pure p1) >>= fun y2 => ((pure q.1) >>= fun y3 => t_choose y2 y3)) (sCons (pure (.int 1)) sNil))) >>= fun y4 => ((pure q.2) >>= fun y5 => t_fraction_times y4 y5)) >>= fun y7 => t_fraction_sum y6 y7)) >>= fun v8 => pure v8)
def t_row_at (x0 x1 : PyData) : S PyData :=
  ((pure (.tuple [(.int 0), (.int 1)])) >>= fun v1 => (((sEnum (pure x0)) >>= fun xs_ => foldS (fun w_ x_ => S.opt (un2 x_) >>= (tlb_row_at_1 x1) w_) xs_ v1) >>= fun v11 => (pure v11)))
def tlb_row_shifted_1 (p0 : PyData) (p1 : PyData) (p3 : PyData) (v : PyData) (q : PyData) : S (PyData) :=
  (((pure v) >>= fun y7 => (((sTup (sCons ((pure p1) >>= fun y3 => ((sBin pySub (pure q) (pure p3)) >>= fun y4 => t_choose y3 y4)) (sCons (pure (.int 1)) sNil))) >>= fun y5 => ((sBin pyIx (pure p0) (pure q)) >>= fun y6 => t_fraction_times y5 y6)) >>= fun y8 => t_fraction_sum y7 y8)) >>= fun v9 => pure v9)
def tlb_row_shifted_2 (p0 : PyData) (p1 : PyData) (v : PyData) (q : PyData) : S (PyData) :=
  ((pure (.tuple [(.int 0), (.int 1)])) >>= fun v2 => (((sRange2 (pure q) (sCallB DL.pyLen (sCons (pure p0) sNil))) >>= fun xs_ => foldS (fun w_ x_ => S.opt (un1 x_) >>= (tlb_row_shifted_1 p0 p1 q) w_) xs_ v2) >>= fun v12 => (((pure v12) >>= fun y13 => appS v y13) >>= fun v14 => pure v14)))
def t_row_shifted (x0 x1 : PyData) : S PyData :=
  ((sLst sNil) >>= fun v1 => (((sRange1 (sCallB DL.pyLen (sCons (pure x0) sNil))) >>= fun xs_ => foldS (fun w_ x_ => S.opt (un1 x_) >>= (tlb_row_shifted_2 x0 x1) w_) xs_ v1) >>= fun v17 => ((pure v17) >>= fun y18 => t_row_of y18)))
def t_row_summed (x0 : PyData) : S PyData :=
  (sIf (sBool (sBin pyNe (pure x0) (sTup sNil))) (sTup (sCons (pure (.tuple [(.int 0), (.int 1)])) (sStar (pure x0) sNil))) (sTup sNil))
def tlb_row_poly_1 (p0 : PyData) (v : PyData × PyData) (q : PyData × PyData) : S (PyData × PyData) :=
  ((sCompA un2 (sZip (pure v.1) ((pure v.2) >>= fun y2 => ((sCallB DL.pyLen (sCons (pure p0) sNil)) >>= fun y3 => t_wide y2 y3))) (fun q4 => ((pure q4.1) >>= fun y7 => (((pure q.2) >>= fun y5 => ((pure q4.2) >>= fun y6 => t_fraction_times y5 y6)) >>= fun y8 => t_fraction_sum y7 y8)))) >>= fun v9 => ((sCompA un2 (sZip (sLst (sCons (pure (.tuple [(.int 0), (.int 1)])) (sStar (pure v.2) sNil))) (sLst (sStar (pure v.2) (sCons (pure (.tuple [(.int 0), (.int 1)])) sNil)))) (fun q10 => ((pure q10.1) >>= fun y13 => (((sTup (sCons (pure q.1) (sCons (pure (.int 1)) sNil))) >>= fun y11 => ((pure q10.2) >>= fun y12 => t_fraction_times y11 y12)) >>= fun y14 => t_fraction_less y13 y14)))) >>= fun v15 => ((sCompA un1 (sItems (pure v15)) (fun q16 => ((sTup (sCons (pure (.int 1)) (sCons (sBin pyAdd (pure q.1) (pure (.int 1))) sNil))) >>= fun y17 => ((pure q16) >>= fun y18 => t_fraction_times y17 y18)))) >>= fun v19 => pure (v9, v19))))
def t_row_poly (x0 : PyData) : S PyData :=
  (((sCons (sBin pyMul (sLst (sCons (pure (.tuple [(.int 0), (.int 1)])) sNil)) (sCallB DL.pyLen (sCons (pure x0) sNil))) (sCons (sLst (sCons (pure (.tuple [(.int 1), (.int 1)])) sNil)) sNil)) >>= fun xs => S.opt (two xs)) >>= fun v1 => (((sEnum (pure x0)) >>= fun xs_ => foldS (fun w_ x_ => S.opt (un2 x_) >>= (tlb_row_poly_1 x0) w_) xs_ (v1.1, v1.2)) >>= fun v22 => ((pure v22.1) >>= fun y23 => t_row_of y23)))
def twc_row_through_1 (v : PyData × PyData) : S Bool :=
  (sBool (sBin pyNe (pure v.2) (sLst sNil)))
def twb_row_through_2 (v : PyData × PyData) : S (PyData × PyData) :=
  (((sBin pyIx (pure v.2) (pure (.int 0))) >>= fun y5 => appS v.1 y5) >>= fun v6 => ((sCompA un2 (sZip (pure v.2) (sSl (pure v.2) ((pure (.int 1)) >>= partS) (pure none))) (fun q7 => ((pure q7.2) >>= fun y8 => ((pure q7.1) >>= fun y9 => t_fraction_less y8 y9)))) >>= fun v10 => pure (v6, v10)))
def fuel_row_through : Nat := 1000000
def t_row_through (x0 : PyData) : S PyData :=
  (((sLst sNil) >>= fun y1 => (sCallB pyListOf (sCons (pure x0) sNil)) >>= fun y2 => pure (y1, y2)) >>= fun v3 => ((whileS twc_row_through_1 twb_row_through_2 fuel_row_through (v3.1, v3.2)) >>= fun v11 => ((pure v11.1) >>= fun y12 => t_row_of y12)))
def tlb_row_of_poly_1 (p2 : PyData) (v : PyData) (q : PyData) : S (PyData) :=
  ((((pure v) >>= fun y3 => ((sTup (sCons (pure p2) (sCons (pure (.int 1)) sNil))) >>= fun y4 => t_fraction_times y3 y4)) >>= fun y5 => ((pure q) >>= fun y6 => t_fraction_sum y5 y6)) >>= fun v7 => pure v7)
def tlb_row_of_poly_2 (p0 : PyData) (v : PyData) (q : PyData) : S (PyData) :=
  ((pure (.tuple [(.int 0), (.int 1)])) >>= fun v2 => (((sItems (sUn pyRev (pure p0))) >>= fun xs_ => foldS (fun w_ x_ => S.opt (un1 x_) >>= (tlb_row_of_poly_1 q) w_) xs_ v2) >>= fun v10 => (((pure v10) >>= fun y11 => appS v y11) >>= fun v12 => pure v12)))
def t_row_of_poly (x0 : PyData) : S PyData :=
  ((sLst sNil) >>= fun v1 => (((sRange1 (sCallB DL.pyLen (sCons (pure x0) sNil))) >>= fun xs_ => foldS (fun w_ x_ => S.opt (un1 x_) >>= (tlb_row_of_poly_2 x0) w_) xs_ v1) >>= fun v15 => ((pure v15) >>= fun y16 => t_row_through y16)))
def t_same_answer (x0 x1 : PyData) : S PyData :=
  (((pure x0) >>= fun y1 => ((pure x1) >>= fun y2 => t_row_less y1 y2)) >>= fun v3 => (sIf (sBool (sBin pyEq (pure v3) (sTup sNil))) (sTup (sCons (pure (.str "same")) (sCons (pure x0) sNil))) ((sCallB pyMin (sCons (sComp un2 (sEnum (pure v3)) (fun q4 => (sBool (sBin pyNe (pure q4.2) (sTup (sCons (pure (.int 0)) (sCons (pure (.int 1)) sNil)))))) (fun q4 => (pure q4.1))) sNil)) >>= fun v5 => (sTup (sCons (pure (.str "apart")) (sCons (pure v5) (sCons ((pure x0) >>= fun y6 => ((pure v5) >>= fun y7 => t_row_at y6 y7)) (sCons ((pure x1) >>= fun y8 => ((pure v5) >>= fun y9 => t_row_at y8 y9)) sNil))))))))
def t_shifted_once (x0 : PyData) : S PyData :=
  ((sCompA un2 (sEnum (pure x0)) (fun q1 => (sIf (sBool (sBin pyLt (sBin pyAdd (pure q1.1) (pure (.int 1))) (sCallB DL.pyLen (sCons (pure x0) sNil)))) ((pure q1.2) >>= fun y2 => ((sBin pyIx (pure x0) (sBin pyAdd (pure q1.1) (pure (.int 1)))) >>= fun y3 => t_fraction_sum y2 y3)) (pure q1.2)))) >>= fun y4 => t_row_of y4)
def t_sign_at (x0 : PyData) : S PyData :=
  ((sIf (sBool (sBin pyNe (pure x0) (sTup sNil))) (sBin pyIx (sBin pyIx (pure x0) (pure (.int 0))) (pure (.int 0))) (pure (.int 0))) >>= fun v1 => (sBin pySub (sCallB pyInt (sCons (sBin pyGt (pure v1) (pure (.int 0))) sNil)) (sCallB pyInt (sCons (sBin pyLt (pure v1) (pure (.int 0))) sNil))))
def t_is_settled (x0 : PyData) : S PyData :=
  ((sCompA un1 (sItems (pure x0)) (fun q1 => (sBin pyIx (pure q1) (pure (.int 0))))) >>= fun v2 => (sOrV (sBin pyEq (pure v2) (sLst sNil)) (sOrV (sAndV (sBin pyGt (sBin pyIx (pure v2) (pure (.int 0))) (pure (.int 0))) (sBin pyGe (sCallB pyMin (sCons (pure v2) sNil)) (pure (.int 0)))) (sAndV (sBin pyLt (sBin pyIx (pure v2) (pure (.int 0))) (pure (.int 0))) (sBin pyLe (sCallB pyMax (sCons (pure v2) sNil)) (pure (.int 0)))))))
def tlb_judge_row_1 (p1 : PyData) (v : Unit) (q : PyData × PyData) : S (Out (Unit) (Unit)) :=
  (sIf (sBool (sBin pyNe ((pure p1) >>= fun y2 => ((pure q.1) >>= fun y3 => t_row_at y2 y3)) (pure q.2))) ((sTup (sCons (pure (.str "at")) (sCons (pure q.1) (sCons (pure q.2) sNil)))) >>= fun x => pure (.ret x)) (pure (.nxt ())))
def t_judge_row (x0 x1 : PyData) : S PyData :=
  (sIf (sNotT (sBool ((pure x1) >>= fun y1 => t_is_row y1))) (sTup (sCons (pure (.str "form")) sNil)) (((sEnum (pure x0)) >>= fun xs_ => forO (κ := Empty) (fun w_ x_ => S.opt (un2 x_) >>= (tlb_judge_row_1 x1) w_) xs_ ()) >>= outR fun v6 => (sIf (sBool (sBin pyGt (sCallB DL.pyLen (sCons (pure x1) sNil)) (sCallB DL.pyLen (sCons (pure x0) sNil)))) (sTup (sCons (pure (.str "longer")) (sCons (sCallB DL.pyLen (sCons ((pure x0) >>= fun y7 => t_row_through y7) sNil)) sNil))) (pure .none))))
end LR
namespace LR
open PySem L2 DL
/-- a fraction -/
def fr (r : Rat) : PyData := .tuple [.int r.num, .int (r.den : Nat)]
/-- an integer's size -/
def Zk (k : Nat) (i : Int) : Prop := i.natAbs < 2 ^ k
structure Sz (m k : Nat) (r : Rat) : Prop where
  n : r.num.natAbs < 2 ^ m
  d : r.den < 2 ^ k
theorem Zk.up {a b : Nat} {i : Int} (h : Zk a i) (k : a ≤ b) : Zk b i := Nat.lt_of_lt_of_le h (Nat.pow_le_pow_right (by decide) k)
theorem Sz.up {a b a' b' : Nat} {r : Rat} (h : Sz a b r) (k : a ≤ a') (k' : b ≤ b') : Sz a' b' r := ⟨Nat.lt_of_lt_of_le h.n (Nat.pow_le_pow_right (by decide) k), Nat.lt_of_lt_of_le h.d (Nat.pow_le_pow_right (by decide) k')⟩
theorem Zk.mul {a b : Nat} {i j : Int} (h : Zk a i) (k : Zk b j) : Zk (a + b) (i * j) := by
  unfold Zk at *
  rw [Int.natAbs_mul, Nat.pow_add]
  exact Nat.mul_lt_mul_of_lt_of_le h (Nat.le_of_lt k) (Nat.pos_of_ne_zero (by simp))
theorem Zk.add {a : Nat} {i j : Int} (h : Zk a i) (k : Zk a j) : Zk (a + 1) (i + j) := by
  unfold Zk at *
  rw [Nat.pow_succ]
  omega
theorem Zk.sub {a : Nat} {i j : Int} (h : Zk a i) (k : Zk a j) : Zk (a + 1) (i - j) := by
  unfold Zk at *
  rw [Nat.pow_succ]
  omega
theorem Zk.log {k : Nat} {i : Int} (h : Zk k i) : i.natAbs.log2 ≤ k := by
  by_cases z : i.natAbs = 0
  · rw [z]; simp
  · exact Nat.le_of_lt ((Nat.log2_lt z).mpr h)
theorem mul_z {a b : Nat} {i j : Int} (h : Zk a i) (k : Zk b j) (hab : a + b < 1000000) : pyMul (.int i) (.int j) = some (.d (.int (i * j))) := by
  have : mulOk i j = true := by
    unfold mulOk
    have h1 := h.log
    have h2 := k.log
    rw [decide_eq_true (show i.natAbs.log2 + j.natAbs.log2 < 1000000 by omega)]
    simp
  simp [pyMul, this]
theorem fdiv_z {k : Nat} {i j : Int} (h : Zk k j) (h0 : 0 < j) (hk : k < 9000) : pyFloorDiv (.int i) (.int j) = some (.d (.int (i / j))) := by
  have := h.log
  have h2 : j.natAbs.log2 < 9000 := by omega
  simp [pyFloorDiv, h0, h2]
theorem ix0 (a b : PyData) : pyIx (.tuple [a, b]) (.int 0) = some (.d a) := rfl
theorem ix1 (a b : PyData) : pyIx (.tuple [a, b]) (.int 1) = some (.d b) := rfl
theorem gcd_int (i j : Int) : pyGcd [.int i, .int j] = some (.d (.int ((Nat.gcd i.natAbs j.natAbs : Nat) : Int))) := rfl
theorem t_fraction_of_eq {p q : Int} (hq : q ≠ 0) (h : Zk 8999 q) : t_fraction_of (.int p) (.int q) = pure (fr (Rat.divInt p q)) := by
  have hg0 : 0 < Nat.gcd p.natAbs q.natAbs := Nat.gcd_pos_of_pos_right _ (by omega)
  have hgz : Zk 8999 ((Nat.gcd p.natAbs q.natAbs : Nat) : Int) := by
    have h1 : Nat.gcd p.natAbs q.natAbs ≤ q.natAbs := Nat.gcd_le_right _ (by omega)
    have h2 : q.natAbs < 2 ^ 8999 := h
    show ((Nat.gcd p.natAbs q.natAbs : Nat) : Int).natAbs < 2 ^ 8999
    rw [Int.natAbs_natCast]
    exact Nat.lt_of_le_of_lt h1 h2
  have gpos : (0 : Int) < ((Nat.gcd p.natAbs q.natAbs : Nat) : Int) := by omega
  have eg : ((q.gcd p : Nat) : Int) = ((Nat.gcd p.natAbs q.natAbs : Nat) : Int) := by
    show ((Nat.gcd q.natAbs p.natAbs : Nat) : Int) = _
    rw [Nat.gcd_comm]
  have fd := fun i => fdiv_z (i := i) hgz gpos (by omega)
  have hd : (((Rat.divInt p q).den : Nat) : Int) = (if 0 < q then q else -q) / ((Nat.gcd p.natAbs q.natAbs : Nat) : Int) := by
    rw [Rat.den_divInt, if_neg hq, Int.natCast_ediv, eg]
    congr 1
    split <;> omega
  unfold t_fraction_of
  simp only [sNil_p, sCons_p, sCallB_p, gcd_int, sOp_d, pure_bind, sBin_p, pyGt_ii, sBool_p, sIf_p]
  by_cases hp : 0 < q
  · have hs : q.sign = 1 := Int.sign_eq_one_of_pos hp
    simp only [hp, decide_true, if_true, fd, sOp_d, sCons_p, sTup_p, sSz_2]
    rw [if_pos hp] at hd
    unfold fr
    rw [Rat.num_divInt, eg, hs, Int.one_mul, hd]
  · have hs : q.sign = -1 := Int.sign_eq_neg_one_of_neg (by omega)
    simp only [hp, decide_false, Bool.false_eq_true, if_false, sUn_p, pyNeg_i, sOp_d, sBin_p, fd, sCons_p, sTup_p, sSz_2]
    rw [if_neg hp] at hd
    unfold fr
    rw [Rat.num_divInt, eg, hs, hd]
    congr 3
    simp
theorem Sz.nz {m k : Nat} {r : Rat} (h : Sz m k r) : Zk m r.num := h.n
theorem Sz.dz {m k : Nat} {r : Rat} (h : Sz m k r) : Zk k (r.den : Int) := by
  show ((r.den : Nat) : Int).natAbs < _
  rw [Int.natAbs_natCast]; exact h.d
theorem den_ne (r : Rat) : ((r.den : Nat) : Int) ≠ 0 := by have := r.den_nz; omega
theorem div_add (a b : Rat) : Rat.divInt (a.num * b.den + b.num * a.den) ((a.den : Int) * b.den) = a + b := by
  have h := Rat.divInt_add_divInt a.num b.num (den_ne a) (den_ne b)
  rw [Rat.num_divInt_den, Rat.num_divInt_den] at h
  exact h.symm
theorem div_sub (a b : Rat) : Rat.divInt (a.num * b.den - b.num * a.den) ((a.den : Int) * b.den) = a - b := by
  have h := div_add a (-b)
  rw [Rat.neg_num, Rat.neg_den] at h
  rw [show a - b = a + -b from Rat.sub_eq_add_neg a b, ← h]
  congr 1
  rw [Int.neg_mul]
  omega
theorem div_mul (a b : Rat) : Rat.divInt (a.num * b.num) ((a.den : Int) * b.den) = a * b := by
  have h := Rat.divInt_mul_divInt a.num b.num (d₁ := (a.den : Int)) (d₂ := (b.den : Int))
  rw [Rat.num_divInt_den, Rat.num_divInt_den] at h
  exact h.symm
theorem den_mul_ne (a b : Rat) : ((a.den : Int) * (b.den : Int)) ≠ 0 := Int.mul_ne_zero (den_ne a) (den_ne b)
section
variable {a b : Rat}
theorem t_fraction_sum_eq (ha : Sz 400000 4000 a) (hb : Sz 400000 4000 b) : t_fraction_sum (fr a) (fr b) = pure (fr (a + b)) := by
  unfold t_fraction_sum fr
  simp only [sBin_p, ix0, ix1, sOp_d, mul_z ha.nz hb.dz (by omega), mul_z hb.nz ha.dz (by omega), mul_z ha.dz hb.dz (by omega), pyAdd_ii, pure_bind]
  rw [t_fraction_of_eq (den_mul_ne a b) ((ha.dz.mul hb.dz).up (by omega)), div_add]
  rfl
theorem t_fraction_less_eq (ha : Sz 400000 4000 a) (hb : Sz 400000 4000 b) : t_fraction_less (fr a) (fr b) = pure (fr (a - b)) := by
  unfold t_fraction_less fr
  simp only [sBin_p, ix0, ix1, sOp_d, mul_z ha.nz hb.dz (by omega), mul_z hb.nz ha.dz (by omega), mul_z ha.dz hb.dz (by omega), pySub_ii, pure_bind]
  rw [t_fraction_of_eq (den_mul_ne a b) ((ha.dz.mul hb.dz).up (by omega)), div_sub]
  rfl
theorem t_fraction_times_eq (ha : Sz 400000 4000 a) (hb : Sz 400000 4000 b) : t_fraction_times (fr a) (fr b) = pure (fr (a * b)) := by
  unfold t_fraction_times fr
  simp only [sBin_p, ix0, ix1, sOp_d, mul_z ha.nz hb.nz (by omega), mul_z ha.dz hb.dz (by omega), pure_bind]
  rw [t_fraction_of_eq (den_mul_ne a b) ((ha.dz.mul hb.dz).up (by omega)), div_mul]
  rfl
end
/-! sizes -/
theorem sz_divInt {m k : Nat} {p q : Int} (hp : Zk m p) (hq : Zk k q) (h0 : q ≠ 0) : Sz m k (Rat.divInt p q) := by
  refine ⟨?_, ?_⟩
  · rw [Rat.num_divInt]
    refine Nat.lt_of_le_of_lt ?_ hp
    rw [Int.natAbs_ediv_of_dvd (by
      have := Int.gcd_dvd_right (a := q) (b := p)
      exact Int.dvd_trans this (Int.dvd_mul_left _ _))]
    refine Nat.le_trans (Nat.div_le_self _ _) ?_
    rw [Int.natAbs_mul]
    have : q.sign.natAbs = 1 := by rw [Int.natAbs_sign, if_neg h0]
    rw [this]; omega
  · rw [Rat.den_divInt, if_neg h0]
    exact Nat.lt_of_le_of_lt (Nat.div_le_self _ _) hq
theorem Sz.add {m k n l c : Nat} {a b : Rat} (ha : Sz m k a) (hb : Sz n l b) (h1 : m + l ≤ c) (h2 : n + k ≤ c) : Sz (c + 1) (k + l) (a + b) := by
  rw [← div_add]
  exact sz_divInt (((ha.nz.mul hb.dz).up h1).add ((hb.nz.mul ha.dz).up h2)) (ha.dz.mul hb.dz) (den_mul_ne a b)
theorem Sz.sub {m k n l c : Nat} {a b : Rat} (ha : Sz m k a) (hb : Sz n l b) (h1 : m + l ≤ c) (h2 : n + k ≤ c) : Sz (c + 1) (k + l) (a - b) := by
  rw [← div_sub]
  exact sz_divInt (((ha.nz.mul hb.dz).up h1).sub ((hb.nz.mul ha.dz).up h2)) (ha.dz.mul hb.dz) (den_mul_ne a b)
theorem Sz.mul {m k n l : Nat} {a b : Rat} (ha : Sz m k a) (hb : Sz n l b) : Sz (m + n) (k + l) (a * b) := by
  rw [← div_mul]
  exact sz_divInt (ha.nz.mul hb.nz) (ha.dz.mul hb.dz) (den_mul_ne a b)
theorem fr_int (i : Int) : (.tuple [.int i, .int 1] : PyData) = fr (i : Rat) := by
  unfold fr
  rw [Rat.num_intCast, Rat.den_intCast]
  rfl
theorem Sz.int {m : Nat} {i : Int} (h : Zk m i) : Sz m 1 (i : Rat) := ⟨by rw [Rat.num_intCast]; exact h, by
  rw [Rat.den_intCast]; decide⟩
theorem fr_zero : (.tuple [.int 0, .int 1] : PyData) = fr 0 := rfl
theorem fr_one : (.tuple [.int 1, .int 1] : PyData) = fr 1 := rfl
theorem Sz.zero {m : Nat} : Sz m 1 0 := Sz.int (i := 0) (Nat.pos_of_ne_zero (by simp))
theorem Sz.one {m : Nat} (hm : 1 ≤ m) : Sz m 1 1 := Sz.int (i := 1) (Nat.lt_of_lt_of_le (show 1 < 2 ^ 1 by decide) (Nat.pow_le_pow_right (by decide) hm))
theorem fr_inj {a b : Rat} (h : fr a = fr b) : a = b := by
  unfold fr at h
  injection h with h
  injection h with h1 h2
  injection h1 with h1
  injection h2 with h2 _
  injection h2 with h2
  exact Rat.ext h1 (by omega)
end LR
namespace LO
open PySem L2 DL
def t_order_at (x0 x1 : PyData) : S PyData :=
  ((sCompA un1 (sItems (pure x1)) (fun q1 => (sBin pyIx (pure x0) (pure q1)))) >>= fun v2 => ((sCallB pySorted (sCons (pure v2) sNil)) >>= fun v3 => (sCallB pyTupOf (sCons (sCompA un1 (sItems (pure v2)) (fun q4 => (sIdx (pure v3) (pure q4)))) sNil))))
def tlb_choices_of_1 (p0 : PyData) (v : PyData) (q : PyData × PyData) : S (PyData) :=
  (((sCompA un1 (sRange2 (pure q.2) (sCallB DL.pyLen (sCons (pure p0) sNil))) (fun q3 => (sTup (sCons (sTup (sStar (pure q.1) (sCons (sBin pyIx (pure p0) (pure q3)) sNil))) (sCons (sBin pyAdd (pure q3) (pure (.int 1))) sNil))))) >>= fun y4 => extS v y4) >>= fun v5 => pure v5)
def tlb_choices_of_2 (p0 : PyData) (v : PyData) (q : PyData) : S (PyData) :=
  ((sLst sNil) >>= fun v2 => (((sItems (pure v)) >>= fun xs_ => foldS (fun w_ x_ => S.opt (un2 x_) >>= (tlb_choices_of_1 p0) w_) xs_ v2) >>= fun v8 => ((sCallB pyListOf (sCons (pure v8) sNil)) >>= fun v9 => pure v9)))
def t_choices_of (x0 x1 : PyData) : S PyData :=
  ((sLst (sCons (sTup (sCons (sTup sNil) (sCons (pure (.int 0)) sNil))) sNil)) >>= fun v1 => (((sRange1 (pure x1)) >>= fun xs_ => foldS (fun w_ x_ => S.opt (un1 x_) >>= (tlb_choices_of_2 x0) w_) xs_ v1) >>= fun v12 => (sCompA un2 (sItems (pure v12)) (fun q13 => (pure q13.1)))))
def t_copies_of (x0 x1 : PyData) : S PyData :=
  (sCallB pyTupOf (sCons (sComp un1 (sItems ((sRgL .list (sRg1 (sCallB DL.pyLen (sCons (pure x1) sNil)))) >>= fun y1 => ((sCallB DL.pyLen (sCons (pure x0) sNil)) >>= fun y2 => t_choices_of y1 y2))) (fun q3 => (sBool (sBin pyEq ((pure x1) >>= fun y4 => ((pure q3) >>= fun y5 => t_order_at y4 y5)) (pure x0)))) (fun q3 => (pure q3))) sNil))
def t_is_place (x0 x1 : PyData) : S PyData :=
  (sAndV (sIsi "int" (pure x1)) (sAndV (sNotV (sIsi "bool" (pure x1))) (sChain pyLe pyLt (pure (.int 0)) (pure x1) (sCallB DL.pyLen (sCons (pure x0) sNil)))))
def t_are_places (x0 x1 : PyData) : S PyData :=
  (sIf (sOrT (sNotT (sBool (sIsi "tuple" (pure x1)))) (sNotT (sBool (sCallB pyAll (sCons (sCompA un1 (sItems (pure x1)) (fun q1 => ((pure x0) >>= fun y2 => ((pure q1) >>= fun y3 => t_is_place y2 y3)))) sNil))))) (pure (.bool false)) (sCallB pyAll (sCons (sCompA un2 (sZip (pure x1) (sSl (pure x1) ((pure (.int 1)) >>= partS) (pure none))) (fun q4 => (sBin pyLt (pure q4.1) (pure q4.2)))) sNil)))
def tlb_judge_copies_1 (p0 : PyData) (p1 : PyData) (v : Unit) (q : PyData × PyData) : S (Out (Unit) (Unit)) :=
  (sIf (sBool (sBin pyNe ((pure p1) >>= fun y4 => ((pure q.2) >>= fun y5 => t_order_at y4 y5)) (pure p0))) ((sTup (sCons (pure (.str "copy")) (sCons (pure q.1) (sCons ((pure p1) >>= fun y6 => ((pure q.2) >>= fun y7 => t_order_at y6 y7)) sNil)))) >>= fun x => pure (.ret x)) (pure (.nxt ())))
def tlb_judge_copies_2 (p2 : PyData) (v : Unit) (q : PyData) : S (Out (Unit) (Unit)) :=
  (sIf (sBool (sBin pyGe (sBin pyIx (pure p2) (sBin pySub (pure q) (pure (.int 1)))) (sBin pyIx (pure p2) (pure q)))) ((sTup (sCons (pure (.str "sequence")) (sCons (pure q) sNil))) >>= fun x => pure (.ret x)) (pure (.nxt ())))
def t_judge_copies (x0 x1 x2 : PyData) : S PyData :=
  (sIf (sOrT (sNotT (sBool (sIsi "tuple" (pure x2)))) (sNotT (sBool (sCallB pyAll (sCons (sCompA un1 (sItems (pure x2)) (fun q1 => ((pure x1) >>= fun y2 => ((pure q1) >>= fun y3 => t_are_places y2 y3)))) sNil))))) (sTup (sCons (pure (.str "form")) sNil)) (((sEnum (pure x2)) >>= fun xs_ => forO (κ := Empty) (fun w_ x_ => S.opt (un2 x_) >>= (tlb_judge_copies_1 x0 x1) w_) xs_ ()) >>= outR fun v10 => (((sRange2 (pure (.int 1)) (sCallB DL.pyLen (sCons (pure x2) sNil))) >>= fun xs_ => forO (κ := Empty) (fun w_ x_ => S.opt (un1 x_) >>= (tlb_judge_copies_2 x2) w_) xs_ ()) >>= outR fun v13 => ((sComp un1 (sItems ((pure x0) >>= fun y14 => ((pure x1) >>= fun y15 => t_copies_of y14 y15))) (fun q16 => (sBool (sBin (pyIn true) (pure q16) (pure x2)))) (fun q16 => (pure q16))) >>= fun v17 => (sIf (sBool (sBin pyNe (pure v17) (sLst sNil))) (sTup (sCons (pure (.str "lacks")) (sCons (sBin pyIx (pure v17) (pure (.int 0))) sNil))) (pure .none))))))
def t__law_at (x0 x1 : PyData) : S PyData :=
  (sCallB pyTupOf (sCons (sCompA un1 (sItems (pure x1)) (fun q1 => (sCallB DL.pyLen (sCons (sComp un1 (sItems (pure x1)) (fun q2 => (sBool (sBin pyLt (sBin pyIx (pure x0) (pure q2)) (sBin pyIx (pure x0) (pure q1))))) (fun q2 => (pure q2))) sNil)))) sNil))
def tlb__law_lots_1 (p2 : PyData) (v : PyData) (q : PyData) : S (PyData) :=
  ((sBin pyAdd (pure v) (sLst (sCons (pure q) (sCons (sBin pyAdd (pure q) (sTup (sCons (pure p2) sNil))) sNil)))) >>= fun v3 => pure v3)
def tlb__law_lots_2 (v : PyData) (q : PyData) : S (PyData) :=
  ((sLst sNil) >>= fun v2 => (((sItems (pure v)) >>= fun xs_ => foldS (fun w_ x_ => S.opt (un1 x_) >>= (tlb__law_lots_1 q) w_) xs_ v2) >>= fun v6 => ((sCallB pyListOf (sCons (pure v6) sNil)) >>= fun v7 => pure v7)))
def t__law_lots (x0 : PyData) : S PyData :=
  ((sLst (sCons (sTup sNil) sNil)) >>= fun v1 => (((sRange1 (pure x0)) >>= fun xs_ => foldS (fun w_ x_ => S.opt (un1 x_) >>= tlb__law_lots_2 w_) xs_ v1) >>= fun v10 => (pure v10)))
def t__law_are_places (x0 x1 : PyData) : S PyData :=
  (sIf (sOrT (sNotT (sBool (sIsi "tuple" (pure x1)))) (sBool (sBin pyNe (sComp un1 (sItems (pure x1)) (fun q1 => (sOrT (sNotT (sBool (sIsi "int" (pure q1)))) (sBool (sIsi "bool" (pure q1))))) (fun q1 => (pure q1))) (sLst sNil)))) (pure (.bool false)) (sBin (pyIn false) (pure x1) ((pure x0) >>= fun y2 => t__law_lots y2)))
def tlb__law_fault_1 (p0 : PyData) (p1 : PyData) (v : Unit) (q : PyData × PyData) : S (Out (Unit) (Unit)) :=
  (sIf (sBool (sBin pyNe ((pure p1) >>= fun y4 => ((pure q.2) >>= fun y5 => t__law_at y4 y5)) (pure p0))) ((sTup (sCons (pure (.str "copy")) (sCons (pure q.1) (sCons ((pure p1) >>= fun y6 => ((pure q.2) >>= fun y7 => t__law_at y6 y7)) sNil)))) >>= fun x => pure (.ret x)) (pure (.nxt ())))
def tlb__law_fault_2 (p2 : PyData) (v : Unit) (q : PyData) : S (Out (Unit) (Unit)) :=
  (sIf (sBool (sBin pyLe (sBin pyIx (pure p2) (pure q)) (sBin pyIx (pure p2) (sBin pySub (pure q) (pure (.int 1)))))) ((sTup (sCons (pure (.str "sequence")) (sCons (pure q) sNil))) >>= fun x => pure (.ret x)) (pure (.nxt ())))
def tlb__law_fault_3 (p0 : PyData) (p1 : PyData) (p2 : PyData) (v : Unit) (q : PyData) : S (Out (Unit) (Unit)) :=
  (sIf (sAndT (sBool (sBin pyEq (sCallB DL.pyLen (sCons (pure q) sNil)) (sCallB DL.pyLen (sCons (pure p0) sNil)))) (sAndT (sBool (sBin pyEq ((pure p1) >>= fun y15 => ((pure q) >>= fun y16 => t__law_at y15 y16)) (pure p0))) (sBool (sBin (pyIn true) (pure q) (pure p2))))) ((sTup (sCons (pure (.str "lacks")) (sCons (pure q) sNil))) >>= fun x => pure (.ret x)) (pure (.nxt ())))
def t__law_fault (x0 x1 x2 : PyData) : S PyData :=
  (sIf (sOrT (sNotT (sBool (sIsi "tuple" (pure x2)))) (sBool (sBin pyNe (sComp un1 (sItems (pure x2)) (fun q1 => (sNotT (sBool ((sCallB DL.pyLen (sCons (pure x1) sNil)) >>= fun y2 => ((pure q1) >>= fun y3 => t__law_are_places y2 y3))))) (fun q1 => (pure q1))) (sLst sNil)))) (sTup (sCons (pure (.str "form")) sNil)) (((sEnum (pure x2)) >>= fun xs_ => forO (κ := Empty) (fun w_ x_ => S.opt (un2 x_) >>= (tlb__law_fault_1 x0 x1) w_) xs_ ()) >>= outR fun v10 => (((sRange2 (pure (.int 1)) (sCallB DL.pyLen (sCons (pure x2) sNil))) >>= fun xs_ => forO (κ := Empty) (fun w_ x_ => S.opt (un1 x_) >>= (tlb__law_fault_2 x2) w_) xs_ ()) >>= outR fun v13 => (((sItems (sCallB pySorted (sCons ((sCallB DL.pyLen (sCons (pure x1) sNil)) >>= fun y14 => t__law_lots y14) sNil))) >>= fun xs_ => forO (κ := Empty) (fun w_ x_ => S.opt (un1 x_) >>= (tlb__law_fault_3 x0 x1 x2) w_) xs_ ()) >>= outR fun v19 => (pure .none)))))
end LO
namespace LO
open PySem L2 DL
theorem t_order_at_eq {ns ps : List Int} (hp : ∀ p ∈ ps, 0 ≤ p ∧ p < ns.length) (hz : ps.length ≤ 16777216) : t_order_at (ti ns) (ti ps) = pure (ti (orderAt ns ps)) := by
  have h1 : mapG (fun a : Int => sOp (pyIx (.tuple (ns.map .int)) (.int a))) ps = pure ((ps.map (at0 ns)).map PyData.int) := mapG_enc PyData.int (at0 ns) fun p h => by rw [ix_t (hp p h)]; rfl
  have h2 : mapG (fun a : Int => sOp (pyIndex (.list ((isort (ps.map (at0 ns))).map .int)) (.int a))) (ps.map (at0 ns)) = pure ((orderAt ns ps).map PyData.int) := mapG_enc PyData.int _ fun h hm => by rw [index_ints hm]; rfl
  have z1 : ((ps.map (at0 ns)).map PyData.int).length ≤ 16777216 := by simpa using hz
  have z2 : ((orderAt ns ps).map PyData.int).length ≤ 16777216 := by simpa [orderAt] using hz
  unfold t_order_at
  simp only [sItems_t, sCompA_p, un1_p, opt_some, pure_bind, sBin_p, mapG_map, h1]
  simp only [sSz_eq PyData.list z1, pure_bind, sNil_p, sCons_p, sCallB_p, sorted_l, sOp_fr, sItems_l, sCompA_p, un1_p, opt_some, sIdx_p]
  simp only [mapG_map (e := PyData.int), h2, pure_bind, sSz_eq PyData.list z2, sCons_p, sCallB_p, tupOf_l, sOp_d]
/-! the choices of so many of some things -/
abbrev pairC (p : List Int × Int) : PyData := .tuple [ti p.1, .int p.2]
def moreC (ts : List Int) (p : List Int × Int) : List (List Int × Int) := (ir p.2 ts.length).map fun i => (p.1 ++ [at0 ts i], i + 1)
def chP (ts : List Int) : Nat → List (List Int × Int)
  | 0 => [([], 0)]
  | k + 1 => (chP ts k).flatMap (moreC ts)
def chI (ts : List Int) (k : Nat) : List (List Int) := (chP ts k).map Prod.fst
theorem chP_ok (ts : List Int) : ∀ (k : Nat) (p : List Int × Int), p ∈ chP ts k → 0 ≤ p.2 ∧ p.2 ≤ ts.length ∧ p.1.length = k
  | 0, p, h => by
    rw [chP, List.mem_singleton] at h
    subst h
    simp
  | k + 1, p, h => by
    rw [chP, List.mem_flatMap] at h
    obtain ⟨q, hq, hp⟩ := h
    obtain ⟨h1, h2, h3⟩ := chP_ok ts k q hq
    unfold moreC at hp
    obtain ⟨i, hi, rfl⟩ := List.mem_map.mp hp
    obtain ⟨i0, i1⟩ := mem_ir.mp hi
    refine ⟨by show 0 ≤ i + 1; omega, by show i + 1 ≤ _; omega, by simp [h3]⟩
theorem choices_body {ts so : List Int} {b : Int} {acc : List (List Int × Int)} (hz : ts.length ≤ 1000) (hs : so.length ≤ 1000) (h0 : 0 ≤ b ∧ b ≤ ts.length) (hl : (acc ++ moreC ts (so, b)).length ≤ 1000000) :
    tlb_choices_of_1 (li ts) (.list (acc.map pairC)) (ti so, .int b) = pure (.list ((acc ++ moreC ts (so, b)).map pairC)) := by
  have hr : rngTo b (ts.length : Int) = some ((ir b ts.length).map .int) := rng_ir ⟨by omega, by omega⟩
  have h1 : mapG (fun i : Int => sTup (sCons (sTup (sStar (pure (ti so)) (sCons (sOp (pyIx (li ts) (.int i))) (pure [])))) (pure [.int (i + 1)]))) (ir b ts.length) = pure ((moreC ts (so, b)).map pairC) := mapG_enc pairC _ fun i hi => by
    obtain ⟨i0, i1⟩ := mem_ir.mp hi
    rw [ix_l ⟨by omega, i1⟩, sOp_d, sCons_p, sStar_t, sTup_p, sSz_eq _ (by simp; omega), sCons_p, sTup_p, sSz_2]
    simp only [pairC, ti, List.map_append, List.map_cons, List.map_nil]
  have z1 : ((moreC ts (so, b)).map pairC).length ≤ 16777216 := by simp only [List.length_append] at hl; rw [List.length_map]; omega
  have z2 : (acc.map pairC).length + ((moreC ts (so, b)).map pairC).length ≤ 16777216 := by simp only [List.length_append] at hl; rw [List.length_map, List.length_map]; omega
  unfold tlb_choices_of_1
  simp only [sNil_p, sCons_p, sCallB_p, len_l, List.length_map, sOp_d, sRange2_p, hr, opt_some, sCompA_p, pure_bind, un1_p, mapG_map, sBin_p, pyAdd_ii, h1, sSz_eq PyData.list z1, extS_eq z2, List.map_append]
theorem choices_lap {ts : List Int} {k : Nat} (hz : ts.length ≤ 1000) (hk : k ≤ 1000) (hl : (chP ts (k + 1)).length ≤ 1000000) (q : PyData) : tlb_choices_of_2 (li ts) (.list ((chP ts k).map pairC)) q = pure (.list ((chP ts (k + 1)).map pairC)) := by
  have h : foldS (fun v (p : List Int × Int) => tlb_choices_of_1 (li ts) v (ti p.1, .int p.2)) (chP ts k) (.list (([] : List (List Int × Int)).map pairC)) = pure (.list (((chP ts k).foldl (fun acc p => acc ++ moreC ts p) []).map pairC)) :=
    foldS_eq (fun acc : List (List Int × Int) => PyData.list (acc.map pairC)) (fun acc p => acc ++ moreC ts p) (fun l acc => (acc ++ l.flatMap (moreC ts)).length ≤ 1000000 ∧ ∀ p ∈ l, 0 ≤ p.2 ∧ p.2 ≤ ts.length ∧ p.1.length ≤ 1000)
      ⟨by simpa [chP] using hl, fun p hp => let ⟨a, b, c⟩ := chP_ok ts k p hp; ⟨a, b, by omega⟩⟩ fun p r acc ⟨h1, h2⟩ => by
        obtain ⟨a, b, c⟩ := h2 p (by simp)
        have h1' : ((acc ++ moreC ts p) ++ r.flatMap (moreC ts)).length ≤ 1000000 := by simpa [List.flatMap_cons] using h1
        refine ⟨choices_body (so := p.1) (b := p.2) hz c ⟨a, b⟩ (by simp only [List.length_append] at h1' ⊢; show _ + (moreC ts p).length ≤ _; omega), h1', fun q hq => h2 q (List.mem_cons_of_mem _ hq)⟩
  have e : ∀ (l acc : List (List Int × Int)), l.foldl (fun acc p => acc ++ moreC ts p) acc = acc ++ l.flatMap (moreC ts) := by
    intro l
    induction l with
    | nil => simp
    | cons x l ih => intro acc; simp [ih]
  rw [e, List.nil_append] at h
  unfold tlb_choices_of_2
  simp only [sNil_p, sLst_p, sSz_nil, pure_bind, sItems_l, foldS_map, un2_p, opt_some]
  have h' : foldS (fun v (p : List Int × Int) => tlb_choices_of_1 (li ts) v (ti p.1, .int p.2)) (chP ts k) (.list []) = _ := h
  simp only [h', pure_bind, sCons_p, sCallB_p, listOf_l, sOp_fr, chP]
theorem t_choices_of_eq {ts : List Int} {k : Nat} (hz : ts.length ≤ 1000) (hk : k ≤ 1000) (hl : ∀ i, i ≤ k → (chP ts i).length ≤ 1000000) : t_choices_of (li ts) (.int (k : Int)) = pure (.list ((chI ts k).map ti)) := by
  have h : ∀ (m j : Nat), j + m = k → foldS (fun v (a : Int) => tlb_choices_of_2 (li ts) v (.int a)) ((List.range' j m).map fun i : Nat => (i : Int)) (.list ((chP ts j).map pairC)) = pure (.list ((chP ts k).map pairC)) := by
    intro m
    induction m with
    | zero => intro j e; simp at e; subst e; rfl
    | succ m ih =>
      intro j e
      rw [List.range'_succ, List.map_cons, foldS_cons, choices_lap hz (by omega) (hl _ (by omega)), pure_bind]
      exact ih (j + 1) (by omega)
  have h0 := h k 0 (by omega)
  rw [← List.range_eq_range'] at h0
  have z : (chI ts k).length ≤ 16777216 := by have := hl k (Nat.le_refl _); simp only [chI, List.length_map]; omega
  unfold t_choices_of
  simp only [sNil_p, sTup_p, sSz_nil, sCons_p, sSz_2, sLst_p, sSz_1, pure_bind, sRange1_p, rng0 (show k ≤ 16777216 by omega), opt_some, ints0, foldS_map, un1_p]
  have h0' : foldS (fun v (a : Nat) => tlb_choices_of_2 (li ts) v (.int a)) (List.range k) (.list [.tuple [.tuple [], .int 0]]) = pure (.list ((chP ts k).map pairC)) := by
    rw [foldS_map] at h0
    exact h0
  simp only [h0', pure_bind, sItems_l, sCompA_p, mapG_map, un2_p, opt_some, mapG_pure]
  rw [show ((chP ts k).map fun x => ti x.1) = (chI ts k).map ti by simp [chI]]
  rw [sSz_eq _ (by simpa using z)]
theorem at0_mem {ts : List Int} {i : Int} (h0 : 0 ≤ i) (h1 : i < ts.length) : at0 ts i ∈ ts := by
  unfold at0
  have h : i.toNat < ts.length := by omega
  rw [List.getD_eq_getElem?_getD, List.getElem?_eq_getElem h]
  exact List.getElem_mem h
theorem chP_mem (ts : List Int) : ∀ (j : Nat) (p : List Int × Int), p ∈ chP ts j → ∀ i ∈ p.1, i ∈ ts
  | 0, p, h => by
    rw [chP, List.mem_singleton] at h
    subst h
    exact fun i hi => absurd hi (by simp)
  | j + 1, p, h => by
    rw [chP, List.mem_flatMap] at h
    obtain ⟨q, hq, hp⟩ := h
    obtain ⟨q0, q1, q2⟩ := chP_ok ts j q hq
    unfold moreC at hp
    obtain ⟨i, hi, rfl⟩ := List.mem_map.mp hp
    obtain ⟨i0, i1⟩ := mem_ir.mp hi
    intro z hz
    rcases List.mem_append.mp hz with hz | hz
    · exact chP_mem ts j q hq z hz
    · rw [List.mem_singleton] at hz
      subst hz
      exact at0_mem (by omega) (by omega)
theorem chI_mem {ts : List Int} {k : Nat} {r : List Int} (h : r ∈ chI ts k) : r.length = k ∧ ∀ i ∈ r, i ∈ ts := by
  obtain ⟨p, hp, rfl⟩ := List.mem_map.mp h
  exact ⟨(chP_ok ts k p hp).2.2, chP_mem ts k p hp⟩
/-! copies -/
def copiesI (p s : List Int) : List (List Int) := (chI (ints0 s.length) p.length).filter fun r => decide (orderAt s r = p)
theorem t_copies_of_eq {p s : List Int} (hs : s.length ≤ 1000) (hp : p.length ≤ 1000) (hl : ∀ i, i ≤ p.length → (chP (ints0 s.length) i).length ≤ 1000000) : t_copies_of (ti p) (ti s) = pure (.tuple ((copiesI p s).map ti)) := by
  have hc := t_choices_of_eq (ts := ints0 s.length) (k := p.length) (by rw [ints0_length]; exact hs) hp hl
  have h1 : compG (fun r : List Int => sBool (t_order_at (ti s) (ti r) >>= fun a => sOp (pyEq a (ti p))) >>= fun b => if b then pure (some (ti r)) else pure none) (chI (ints0 s.length) p.length) = pure ((copiesI p s).map ti) := by
    have := compG_enc (f := fun r : List Int => sBool (t_order_at (ti s) (ti r) >>= fun a => sOp (pyEq a (ti p))) >>= fun b => if b then pure (some (ti r)) else pure none) ti (fun r => decide (orderAt s r = p)) id (l := chI (ints0 s.length) p.length) fun r hr => by
      obtain ⟨r1, r2⟩ := chI_mem hr
      have ho := t_order_at_eq (ns := s) (ps := r) (fun i hi => mem_ints0.mp (r2 i hi)) (by omega)
      simp only [ho, pure_bind, ti, pyEq_tt, sOp_d, sBool_p]
      by_cases c : orderAt s r = p <;> simp [c]
    rw [this, List.map_id]; rfl
  have z : ((copiesI p s).map ti).length ≤ 16777216 := by
    rw [List.length_map]
    refine Nat.le_trans (List.length_filter_le _ _) ?_
    have := hl p.length (Nat.le_refl _)
    simp only [chI, List.length_map]
    omega
  unfold t_copies_of
  simp only [sNil_p, sCons_p, sCallB_p, len_t, List.length_map, sOp_d, sRg1_i, rgL_nat PyData.list (show s.length ≤ 16777216 by omega), pure_bind]
  have hc' : t_choices_of (.list ((ints0 s.length).map .int)) (.int (p.length : Int)) = _ := hc
  simp only [hc', sItems, pure_bind, itemsS_l, sComp_p, un1_p, opt_some, compG_map, sBin, h1, sSz_eq PyData.list z, sCons_p, sCallB_p, tupOf_l, sOp_d]
end LO
namespace LO
open PySem L2 DL
/-! the order of some places, by how many stand lower -/
def lowI (ns ps : List Int) (i : Int) : List Int := ps.filter fun j => decide (at0 ns j < at0 ns i)
def atLaw (ns ps : List Int) : List Int := ps.map fun i => ((lowI ns ps i).length : Int)
theorem t__law_at_eq {ns ps : List Int} (hp : ∀ p ∈ ps, 0 ≤ p ∧ p < ns.length) (hz : ps.length ≤ 16777216) : t__law_at (ti ns) (ti ps) = pure (ti (atLaw ns ps)) := by
  have h1 : ∀ i ∈ ps, compG (fun j : Int => sBool (sBin pyLt (sOp (pyIx (ti ns) (.int j))) (sOp (pyIx (ti ns) (.int i)))) >>= fun b => if b then pure (some (PyData.int j)) else pure none) ps = pure ((lowI ns ps i).map PyData.int) := fun i hi => by
    have := compG_enc (f := fun j : Int => sBool (sBin pyLt (sOp (pyIx (ti ns) (.int j))) (sOp (pyIx (ti ns) (.int i)))) >>= fun b => if b then pure (some (PyData.int j)) else pure none) PyData.int (fun j => decide (at0 ns j < at0 ns i)) id (l := ps) fun j hj => by
      rw [ix_t (hp j hj), ix_t (hp i hi)]
      simp only [sOp_d, sBin_p, pyLt_ii, sBool_p, pure_bind]
      rfl
    rw [this, List.map_id]; rfl
  have h2 : mapG (fun i : Int => compG (fun j : Int => sBool (sBin pyLt (sOp (pyIx (ti ns) (.int j))) (sOp (pyIx (ti ns) (.int i)))) >>= fun b => if b then pure (some (PyData.int j)) else pure none) ps >>= fun ys => sSz PyData.list ys >>= fun x => sOp (DL.pyLen [x])) ps = pure ((atLaw ns ps).map PyData.int) := mapG_enc PyData.int _ fun i hi => by
    rw [h1 i hi, pure_bind, sSz_eq _ (by rw [List.length_map]; exact Nat.le_trans (List.length_filter_le _ _) hz), pure_bind, len_l, sOp_d, List.length_map]
  have z : ((atLaw ns ps).map PyData.int).length ≤ 16777216 := by simpa [atLaw] using hz
  unfold t__law_at
  simp only [sItems_t, sCompA_p, un1_p, opt_some, pure_bind, mapG_map, sComp_p, compG_map, sBin_p, callB_b, sNil_p, bind_assoc, h2]
  simp only [sSz_eq PyData.list z, pure_bind, tupOf_l, sOp_d]
theorem t__law_at_eqL {ns ps : List Int} (hp : ∀ p ∈ ps, 0 ≤ p ∧ p < ns.length) (hz : ps.length ≤ 16777216) : t__law_at (ti ns) (.list (ps.map .int)) = pure (ti (atLaw ns ps)) := by
  rw [← t__law_at_eq hp hz]
  unfold t__law_at
  simp only [sItems_t, sItems_l]
/-! all ascending rows of places -/
def twoI (i : Int) (r : List Int) : List (List Int) := [r, r ++ [i]]
def lotsI : Nat → List (List Int)
  | 0 => [[]]
  | n + 1 => (lotsI n).flatMap (twoI n)
theorem lotsI_length : ∀ n, (lotsI n).length = 2 ^ n
  | 0 => rfl
  | n + 1 => by
    have h : ∀ rs : List (List Int), (rs.flatMap (twoI n)).length = 2 * rs.length := fun rs => by
      induction rs with
      | nil => rfl
      | cons r rs ih => rw [List.flatMap_cons, List.length_append, ih]; simp [twoI]; omega
    rw [lotsI, h, lotsI_length n, Nat.pow_succ]; omega
/-- ascending places of n -/
def Asc (n : Nat) (r : List Int) : Prop := r.Pairwise (· < ·) ∧ ∀ i ∈ r, 0 ≤ i ∧ i < n
theorem asc_iff : ∀ (n : Nat) (r : List Int), r ∈ lotsI n ↔ Asc n r
  | 0, r => by
    rw [lotsI, List.mem_singleton]
    constructor
    · rintro rfl; exact ⟨.nil, fun i h => by cases h⟩
    · rintro ⟨_, h⟩
      cases r with
      | nil => rfl
      | cons i r => have := h i (by simp); omega
  | n + 1, r => by
    rw [lotsI, List.mem_flatMap]
    constructor
    · rintro ⟨q, hq, hr⟩
      obtain ⟨h1, h2⟩ := (asc_iff n q).mp hq
      simp only [twoI, List.mem_cons, List.not_mem_nil, or_false] at hr
      rcases hr with rfl | rfl
      · exact ⟨h1, fun i hi => by have := h2 i hi; omega⟩
      · refine ⟨List.pairwise_append.mpr ⟨h1, List.pairwise_singleton _ _, fun a ha b hb => ?_⟩, fun i hi => ?_⟩
        · rw [List.mem_singleton] at hb
          subst hb
          exact (h2 a ha).2
        · rcases List.mem_append.mp hi with hi | hi
          · have := h2 i hi; omega
          · rw [List.mem_singleton] at hi; omega
    · rintro ⟨h1, h2⟩
      by_cases hn : (n : Int) ∈ r
      · have hne : r ≠ [] := by rintro rfl; cases hn
        have e := List.dropLast_concat_getLast hne
        have hp := h1
        rw [← e] at hp
        obtain ⟨p1, _, p2⟩ := List.pairwise_append.mp hp
        have hlast : r.getLast hne = (n : Int) := by
          have l1 := (h2 _ (List.getLast_mem hne)).2
          rcases (by rw [← e] at hn; exact List.mem_append.mp hn) with h | h
          · have := p2 _ h _ (List.mem_singleton_self _)
            omega
          · rw [List.mem_singleton] at h; exact h.symm
        refine ⟨r.dropLast, (asc_iff n _).mpr ⟨p1, fun i hi => ?_⟩, ?_⟩
        · have := h2 i (List.dropLast_subset _ hi)
          have := p2 i hi _ (List.mem_singleton_self _)
          omega
        · simp only [twoI, List.mem_cons, List.not_mem_nil, or_false]
          exact .inr (by rw [← hlast]; exact e.symm)
      · refine ⟨r, (asc_iff n r).mpr ⟨h1, fun i hi => ?_⟩, by simp [twoI]⟩
        have := h2 i hi
        have : i ≠ (n : Int) := fun z => hn (z ▸ hi)
        omega
theorem Asc.len {n : Nat} {r : List Int} (h : Asc n r) : r.length ≤ n := by
  have key : ∀ (n : Nat) (r : List Int), r ∈ lotsI n → r.length ≤ n := by
    intro n
    induction n with
    | zero => intro r h; rw [lotsI, List.mem_singleton] at h; subst h; simp
    | succ n ih =>
      intro r h
      rw [lotsI, List.mem_flatMap] at h
      obtain ⟨q, hq, hr⟩ := h
      have := ih q hq
      simp only [twoI, List.mem_cons, List.not_mem_nil, or_false] at hr
      rcases hr with rfl | rfl
      · omega
      · simp; omega
  exact key n r ((asc_iff n r).mpr h)
theorem lots_body {i : Int} {acc : List (List Int)} {r : List Int} (h1 : r.length ≤ 1000) (h2 : acc.length ≤ 1000000) : tlb__law_lots_1 (.int i) (.list (acc.map ti)) (ti r) = pure (.list ((acc ++ twoI i r).map ti)) := by
  unfold tlb__law_lots_1
  simp only [sNil_p, sCons_p, sTup_p, sSz_1, sBin_p]
  rw [add_t (by simp; omega)]
  simp only [sOp_d, sCons_p, sLst_p, sSz_2, pure_bind, sBin_p]
  rw [add_l (by simp; omega)]
  simp only [sOp_fr, pure_bind, twoI, List.map_append, List.map_cons, List.map_nil, ti]
theorem t__law_lots_eq {n : Nat} (hn : n ≤ 12) : t__law_lots (.int (n : Int)) = pure (.list ((lotsI n).map ti)) := by
  have lap : ∀ k : Nat, k < n → tlb__law_lots_2 (.list ((lotsI k).map ti)) (.int (k : Int)) = pure (.list ((lotsI (k + 1)).map ti)) := fun k hk => by
    have h : foldS (fun v (r : List Int) => tlb__law_lots_1 (.int (k : Int)) v (ti r)) (lotsI k) (.list (([] : List (List Int)).map ti)) = pure (.list (((lotsI k).foldl (fun acc r => acc ++ twoI k r) []).map ti)) :=
      foldS_eq (fun acc : List (List Int) => PyData.list (acc.map ti)) (fun acc r => acc ++ twoI k r) (fun l acc => acc.length + 2 * l.length ≤ 1000000 ∧ ∀ r ∈ l, r.length ≤ 1000)
        ⟨by rw [lotsI_length]; have : 2 ^ k ≤ 2 ^ 12 := Nat.pow_le_pow_right (by decide) (by omega); simp; omega, fun r hr => by have := ((asc_iff k r).mp hr).len; omega⟩ fun r l acc ⟨h1, h2⟩ =>
          ⟨lots_body (h2 r (by simp)) (by omega), by simp [twoI] at h1 ⊢; omega, fun q hq => h2 q (List.mem_cons_of_mem _ hq)⟩
    have e : ∀ (l acc : List (List Int)), l.foldl (fun acc r => acc ++ twoI k r) acc = acc ++ l.flatMap (twoI k) := by
      intro l
      induction l with
      | nil => simp
      | cons x l ih => intro acc; simp [ih]
    rw [e, List.nil_append] at h
    unfold tlb__law_lots_2
    simp only [sNil_p, sLst_p, sSz_nil, pure_bind, sItems_l, foldS_map, un1_p, opt_some]
    have h' : foldS (fun v (r : List Int) => tlb__law_lots_1 (.int (k : Int)) v (ti r)) (lotsI k) (.list []) = _ := h
    simp only [h', pure_bind, sCons_p, sCallB_p, listOf_l, sOp_fr, lotsI]
  have h : ∀ (m j : Nat), j + m = n → foldS (fun v (a : Nat) => tlb__law_lots_2 v (.int (a : Int))) (List.range' j m) (.list ((lotsI j).map ti)) = pure (.list ((lotsI n).map ti)) := by
    intro m
    induction m with
    | zero => intro j e; simp at e; subst e; rfl
    | succ m ih =>
      intro j e
      rw [List.range'_succ, foldS_cons, lap j (by omega), pure_bind]
      exact ih (j + 1) (by omega)
  have h0 := h n 0 (by omega)
  rw [← List.range_eq_range'] at h0
  unfold t__law_lots
  simp only [sNil_p, sTup_p, sSz_nil, sCons_p, sLst_p, sSz_1, pure_bind, sRange1_p, rng0 (show n ≤ 16777216 by omega), opt_some, ints0, foldS_map, un1_p]
  have h0' : foldS (fun v (a : Nat) => tlb__law_lots_2 v (.int (a : Int))) (List.range n) (.list [.tuple []]) = pure (.list ((lotsI n).map ti)) := h0
  simp only [h0', pure_bind]
end LO
namespace LO
open PySem L2 DL
/-! both ways are one for heights that are all different -/
theorem isort_sorted (l : List Int) : (isort l).Pairwise (· ≤ ·) := by
  have h := List.pairwise_mergeSort (le := fun a b : Int => decide (a ≤ b)) (fun a b c h1 h2 => by simp at *; omega) (fun a b => by simp; omega) l
  exact h.imp fun h => by simpa using h
theorem isort_perm (l : List Int) : (isort l).Perm l := List.mergeSort_perm _ _
theorem idx_sorted : ∀ {l : List Int} {h : Int}, l.Pairwise (· < ·) → h ∈ l → l.idxOf h = (l.filter fun x => decide (x < h)).length
  | a :: l, h, hp, hm => by
    obtain ⟨h1, h2⟩ := List.pairwise_cons.mp hp
    by_cases e : a = h
    · subst e
      have : (l.filter fun x => decide (x < a)) = [] := List.filter_eq_nil_iff.mpr fun x hx => by have := h1 x hx; simp; omega
      simp [List.filter_cons, this]
    · have hm' : h ∈ l := by
        rcases List.mem_cons.mp hm with q | q
        · exact absurd q.symm e
        · exact q
      have hlt := h1 h hm'
      have eb : (a == h) = false := by simpa using e
      rw [List.idxOf_cons, eb]
      simp only [List.filter_cons, decide_eq_true (show a < h from hlt), if_true, List.length_cons, cond_false, idx_sorted h2 hm']
theorem rank_eq {hs : List Int} (nd : hs.Nodup) {h : Int} (hm : h ∈ hs) : rankI hs h = ((hs.filter fun x => decide (x < h)).length : Nat) := by
  have p := isort_perm hs
  have nd' : (isort hs).Nodup := p.nodup_iff.mpr nd
  have hs' : (isort hs).Pairwise (· < ·) := by
    have h1 := isort_sorted hs
    refine (List.Pairwise.and h1 nd').imp fun {a b} h => ?_
    have := h.1
    have := h.2
    omega
  unfold rankI
  rw [idx_sorted hs' (isort_mem.mpr hm)]
  have := (p.filter fun x => decide (x < h)).length_eq
  omega
theorem at_alike {ns ps : List Int} (nd : (ps.map (at0 ns)).Nodup) : atLaw ns ps = orderAt ns ps := by
  unfold atLaw orderAt
  rw [List.map_map]
  refine List.map_congr_left fun i hi => ?_
  show ((lowI ns ps i).length : Int) = rankI _ (at0 ns i)
  rw [rank_eq nd (List.mem_map_of_mem hi), List.filter_map, List.length_map]
  rfl
/-- an order's heights at places -/
theorem nodup_at {ns ps : List Int} (h1 : ns.Nodup) (h2 : ps.Nodup) (hp : ∀ p ∈ ps, 0 ≤ p ∧ p < ns.length) : (ps.map (at0 ns)).Nodup := by
  refine List.pairwise_map.mpr (List.Pairwise.imp_of_mem ?_ h2)
  intro a b ha hb hne e
  obtain ⟨a0, a1⟩ := hp a ha
  obtain ⟨b0, b1⟩ := hp b hb
  unfold at0 at e
  have ha' : a.toNat < ns.length := by omega
  have hb' : b.toNat < ns.length := by omega
  rw [List.getD_eq_getElem?_getD, List.getD_eq_getElem?_getD, List.getElem?_eq_getElem ha', List.getElem?_eq_getElem hb'] at e
  have := (List.getElem_inj h1).mp (show ns[a.toNat] = ns[b.toNat] from e)
  omega
theorem Asc.nodup {n : Nat} {r : List Int} (h : Asc n r) : r.Nodup := h.1.imp fun h => by omega
/-! whether anything is a row of places -/
def placeD (n : Nat) : PyData → Bool
  | .int i => decide (0 ≤ i) && decide (i < n)
  | _ => false
theorem t_is_place_eq (s : List Int) (x : PyData) : t_is_place (ti s) x = pure (.bool (placeD s.length x)) := by
  unfold t_is_place
  cases x with
  | int i =>
    simp only [sIsi_p, isi_ii, sNotV_p, sAndV_p, sNil_p, sCons_p, sCallB_p, len_t, List.length_map, sOp_d, sChain_p, pyLe_ii, pyLt_ii, cmpB_b, pure_bind, placeD, show (("int" : String) == "int") = true by decide, show (("bool" : String) == "int") = false by decide, Bool.not_false, if_true]
    cases h1 : decide (0 ≤ i) <;> simp
  | _ => simp [placeD]
theorem intsOf_place {n : Nat} : ∀ {ds : List PyData}, ds.all (placeD n) = true → ∃ ns : List Int, ds = ns.map .int ∧ ∀ i ∈ ns, 0 ≤ i ∧ i < n
  | [], _ => ⟨[], rfl, fun i hi => absurd hi (by simp)⟩
  | d :: ds, h => by
    rw [List.all_cons, Bool.and_eq_true] at h
    obtain ⟨ns, rfl, h2⟩ := intsOf_place h.2
    cases d with
    | int i =>
      have h1 := h.1
      simp only [placeD, Bool.and_eq_true, decide_eq_true_eq] at h1
      exact ⟨i :: ns, rfl, fun j hj => by
        rcases List.mem_cons.mp hj with rfl | hj
        · exact h1
        · exact h2 j hj⟩
    | _ => cases h.1
instance (n : Nat) (r : List Int) : Decidable (Asc n r) := inferInstanceAs (Decidable (_ ∧ _))
/-- what both say of anything -/
def placesD (n : Nat) : PyData → Bool
  | .tuple ds => match intsOf ds with
    | some ns => decide (Asc n ns)
    | none => false
  | _ => false
theorem placesD_ti (n : Nat) (ns : List Int) : placesD n (ti ns) = decide (Asc n ns) := by
  show (match intsOf (ns.map PyData.int) with | some ns => decide (Asc n ns) | none => false) = _
  rw [intsOf_m]
theorem placesD_inv {n : Nat} {x : PyData} (h : placesD n x = true) : ∃ ns, x = ti ns ∧ Asc n ns := by
  cases x with
  | tuple ds =>
    have h' : (match intsOf ds with | some ns => decide (Asc n ns) | none => false) = true := h
    cases q : intsOf ds with
    | none => rw [q] at h'; cases h'
    | some ns =>
      rw [q] at h'
      refine ⟨ns, ?_, of_decide_eq_true h'⟩
      have : ∀ {ds : List PyData} {ns : List Int}, intsOf ds = some ns → ds = ns.map .int := by
        intro ds
        induction ds with
        | nil => intro ns h; cases h; rfl
        | cons d ds ih =>
          intro ns h
          cases d <;> first | (cases h; done) | skip
          rename_i i
          cases r : intsOf ds with
          | none => simp [intsOf, r] at h
          | some ms =>
            simp [intsOf, r] at h
            subst h
            rw [ih r]; rfl
      rw [this q]
  | _ => cases h
theorem zipped_ints : ∀ a b : List Int, zipped (a.map .int) (b.map .int) = (List.zip a b).map fun p => .tuple [.int p.1, .int p.2]
  | [], _ => by simp [zipped]
  | _ :: _, [] => by simp [zipped]
  | x :: a, y :: b => by
    have := zipped_ints a b
    unfold zipped at this ⊢
    simp [this]
theorem up_iff : ∀ ns : List Int, ((List.zip ns (ns.drop 1)).all fun p => decide (p.1 < p.2)) = decide (ns.Pairwise (· < ·))
  | [] => rfl
  | [a] => by simp
  | a :: b :: r => by
    have ih := up_iff (b :: r)
    simp only [List.drop_succ_cons, List.drop_zero, List.zip_cons_cons, List.all_cons] at ih ⊢
    rw [ih]
    by_cases h : a < b
    · by_cases h2 : (b :: r).Pairwise (· < ·)
      · have : (a :: b :: r).Pairwise (· < ·) := List.pairwise_cons.mpr ⟨fun x hx => by
          rcases List.mem_cons.mp hx with rfl | hx
          · exact h
          · have := (List.pairwise_cons.mp h2).1 x hx; omega, h2⟩
        simp [h, h2, this]
      · have : ¬ (a :: b :: r).Pairwise (· < ·) := fun z => h2 (List.pairwise_cons.mp z).2
        simp only [h2, this, decide_false, Bool.and_false]
    · have : ¬ (a :: b :: r).Pairwise (· < ·) := fun z => h ((List.pairwise_cons.mp z).1 b (by simp))
      simp only [h, this, decide_false, Bool.false_and]
theorem t_are_places_eq (s : List Int) (x : PyData) (hz : ∀ ds, x = .tuple ds → ds.length ≤ 16777216) : t_are_places (ti s) x = pure (.bool (placesD s.length x)) := by
  unfold t_are_places
  cases x with
  | tuple ds =>
    have hz := hz ds rfl
    have h1 : mapG (fun d : PyData => t_is_place (ti s) d) ds = pure (ds.map fun d => .bool (placeD s.length d)) := mapG_eq _ fun d _ => t_is_place_eq s d
    simp only [sIsi_p, isi_tt, show (("tuple" : String) == "tuple") = true by decide, sBool_p, sNotT_p, Bool.not_true, sOrT_p, Bool.false_eq_true, if_false, sItems_t, sCompA_p, un1_p, opt_some, pure_bind, h1, sSz_eq PyData.list (show (ds.map fun d => PyData.bool (placeD s.length d)).length ≤ 16777216 by simpa using hz), sNil_p, sCons_p, sCallB_p, all_m, sOp_d]
    cases h : ds.all (placeD s.length) with
    | false =>
      have hp : placesD s.length (.tuple ds) = false := by
        cases q : placesD s.length (.tuple ds) with
        | false => rfl
        | true =>
          exfalso
          obtain ⟨ns, e, ha⟩ := placesD_inv q
          cases e
          have : (ns.map PyData.int).all (placeD s.length) = true := by
            rw [List.all_eq_true]
            intro d hd
            obtain ⟨i, hi, rfl⟩ := List.mem_map.mp hd
            simp [placeD, ha.2 i hi]
          rw [this] at h; cases h
      rw [hp]
      simp
    | true =>
      obtain ⟨ns, rfl, hn⟩ := intsOf_place h
      have hp : placesD s.length (ti ns) = decide (ns.Pairwise (· < ·)) := by
        rw [placesD_ti]
        exact decide_eq_decide.mpr ⟨fun h => h.1, fun h => ⟨h, hn⟩⟩
      have hp' : placesD s.length (.tuple (ns.map .int)) = decide (ns.Pairwise (· < ·)) := hp
      have e1 : cutD (ns.map PyData.int) (some 1) none = (ns.drop 1).map .int := by rw [cut_one, List.map_drop]
      have z : (List.map (fun p : Int × Int => PyData.bool (decide (p.1 < p.2))) (List.zip ns (ns.drop 1))).length ≤ 16777216 := by
        rw [List.length_map] at hz
        rw [List.length_map, List.length_zip]
        omega
      rw [hp', ← up_iff]
      simp only [Bool.not_true, sIf_p, Bool.false_eq_true, if_false, pure_bind, partS_i, sSl_p, sl_t, e1, sOp_d, sZip_t, zipped_ints, sCompA_p, mapG_map, un2_p, opt_some, sBin_p, pyLt_ii, mapG_pure, sSz_eq PyData.list z, sCons_p, sCallB_p, all_m]
  | _ => simp [placesD]
theorem t__law_are_places_eq {n : Nat} (hn : n ≤ 12) (x : PyData) (hz : ∀ ds, x = .tuple ds → ds.length ≤ 16777216) : t__law_are_places (.int (n : Int)) x = pure (.bool (placesD n x)) := by
  unfold t__law_are_places
  cases x with
  | tuple ds =>
    have hz := hz ds rfl
    have h1 : compG (fun d : PyData => sOrT (sNotT (sBool (sIsi "int" (pure d)))) (sBool (sIsi "bool" (pure d))) >>= fun b => if b then pure (some d) else pure none) ds = pure ((ds.filter fun d => !isWholeD d).map id) := compG_eq _ _ fun d _ => by
      cases d <;> simp [isWholeD]
    have z : ((ds.filter fun d => !isWholeD d).map id).length ≤ 16777216 := by
      rw [List.length_map]
      exact Nat.le_trans (List.length_filter_le _ _) hz
    simp only [sIsi_p, isi_tt, show (("tuple" : String) == "tuple") = true by decide, sBool_p, sNotT_p, Bool.not_true, sOrT_p, Bool.false_eq_true, if_false, sItems_t, sComp_p, un1_p, opt_some, pure_bind]
    have h1' : compG (fun d : PyData => sOrT (sNotT (pure (isiD "int" d))) (pure (isiD "bool" d)) >>= fun b => if b then pure (some d) else pure none) ds = pure ((ds.filter fun d => !isWholeD d).map id) := h1
    simp only [sOrT_p, sNotT_p] at h1'
    rw [List.map_id] at z h1'
    simp only [h1', pure_bind, sSz_eq PyData.list z, sNil_p, sLst_p, sSz_nil, sBin_p, pyNe_l0, sOp_d, sBool_p, t__law_lots_eq hn]
    cases h : (ds.filter fun d => !isWholeD d).isEmpty with
    | false =>
      have hp : placesD n (.tuple ds) = false := by
        cases q : placesD n (.tuple ds) with
        | false => rfl
        | true =>
          exfalso
          obtain ⟨ns, e, ha⟩ := placesD_inv q
          cases e
          have : ((ns.map PyData.int).filter fun d => !isWholeD d) = [] := List.filter_eq_nil_iff.mpr fun d hd => by
            obtain ⟨i, _, rfl⟩ := List.mem_map.mp hd
            simp [isWholeD]
          rw [this] at h; cases h
      rw [hp]
      simp
    | true =>
      have hall : ∀ d ∈ ds, isWholeD d = true := by
        have := List.isEmpty_iff.mp h
        rw [List.filter_eq_nil_iff] at this
        intro d hd
        have := this d hd
        simpa using this
      have : ∃ ns : List Int, ds = ns.map .int := isInt_ints (by
        rw [List.all_eq_true]
        intro d hd
        have := hall d hd
        cases d <;> simp [isWholeD] at this ⊢)
      obtain ⟨ns, rfl⟩ := this
      have := in_rowsL false ns (lotsI n)
      have e : placesD n (.tuple (ns.map .int)) = decide (Asc n ns) := placesD_ti n ns
      have e2 : decide (ns ∈ lotsI n) = decide (Asc n ns) := decide_eq_decide.mpr (asc_iff n ns)
      simp only [Bool.not_true, sIf_p, Bool.false_eq_true, if_false, this, sOp_d, e, e2]
      simp
  | _ => simp [placesD]
end LO
namespace LO
open PySem L2 DL
/-! rows sorted -/
def sortRows (rows : List (List Int)) : List (List Int) := rows.mergeSort fun a b => decide (a ≤ b)
theorem alike_rows (rows : List (List Int)) : ((rows.map ti).all fun d => (rows.map ti).all fun d' => PySem.W.alike d d') = true := by
  rw [List.all_eq_true]
  intro d hd
  rw [List.all_eq_true]
  intro d' hd'
  obtain ⟨a, _, rfl⟩ := List.mem_map.mp hd
  obtain ⟨b, _, rfl⟩ := List.mem_map.mp hd'
  rw [PySem.W.alike]
  exact PySem.W.alike_ints a b
theorem sortOk_rows (rows : List (List Int)) : sortOk (rows.map ti) = true := by
  unfold sortOk
  rw [alike_rows]
  have h1 : (rows.map ti).all isTup = true := by
    rw [List.all_eq_true]; intro d hd; obtain ⟨a, _, rfl⟩ := List.mem_map.mp hd; rfl
  have h2 : ((rows.map ti).all fun d => decide (d.depth ≤ 50)) = true := by
    rw [List.all_eq_true]; intro d hd; obtain ⟨a, _, rfl⟩ := List.mem_map.mp hd
    exact decide_eq_true (Nat.le_trans (depth_ti a) (by decide))
  rw [h1, h2]; rfl
theorem sortD_rows (rows : List (List Int)) : sortD (rows.map ti) = (sortRows rows).map ti := by
  unfold sortD sortRows
  refine (PySem.W.sort_maps (r := fun a b : List Int => decide (a ≤ b)) (s := PySem.W.dataLe false (id : PyData → PyData)) ti (l := rows) fun a _ b _ => ?_).symm
  rw [PySem.W.dataLe_eq]
  show decide (a ≤ b) = !PySem.W.dataLt (ti b) (ti a)
  rw [dataLt_tints, ← decide_not]
  exact decide_eq_decide.mpr List.not_lt.symm
theorem sorted_rowsL (rows : List (List Int)) : pySorted [.list (rows.map ti)] = some (.fr (.list ((sortRows rows).map ti))) := by
  simp [pySorted, sortOk_rows, sortD_rows]
theorem sorted_rowsT (rows : List (List Int)) : pySorted [.tuple (rows.map ti)] = some (.fr (.list ((sortRows rows).map ti))) := by
  simp [pySorted, sortOk_rows, sortD_rows]
theorem sortRows_pw (rows : List (List Int)) : (sortRows rows).Pairwise (· ≤ ·) := by
  have h := List.pairwise_mergeSort (le := fun a b : List Int => decide (a ≤ b)) (fun a b c h1 h2 => by
    simp only [decide_eq_true_eq] at *; exact List.le_trans h1 h2) (fun a b => by
    simp only [Bool.or_eq_true, decide_eq_true_eq]; exact List.le_total a b) rows
  exact h.imp fun h => by simpa using h
theorem sortRows_perm (rows : List (List Int)) : (sortRows rows).Perm rows := List.mergeSort_perm _ _
instance (l : List (List Int)) : Decidable (l.Pairwise (· ≤ ·)) := inferInstance
theorem chI_facts : ∀ n : Fin 7, ∀ k : Fin 7, (chI (ints0 n.1) k.1).Pairwise (· ≤ ·) ∧ ((lotsI n.1).filter fun r => decide (r.length = k.1)).isPerm (chI (ints0 n.1) k.1) = true := by decide +kernel
theorem lots_chI {n k : Nat} (hn : n ≤ 6) (hk : k ≤ 6) : (sortRows (lotsI n)).filter (fun r => decide (r.length = k)) = chI (ints0 n) k := by
  obtain ⟨h1, h2⟩ := chI_facts ⟨n, by omega⟩ ⟨k, by omega⟩
  have h2 := List.isPerm_iff.mp h2
  refine List.Perm.eq_of_pairwise (le := (· ≤ ·)) (fun a b _ _ x y => List.le_antisymm x y) ((sortRows_pw _).filter _) h1 (((sortRows_perm _).filter _).trans h2)
end LO
namespace LF
open PySem L2 DL
def t_is_whole (x0 : PyData) : S PyData :=
  (sAndV (sIsi "int" (pure x0)) (sNotV (sIsi "bool" (pure x0))))
def t_is_order (x0 : PyData) : S PyData :=
  (sIf (sOrT (sNotT (sBool (sIsi "tuple" (pure x0)))) (sNotT (sBool (sCallB pyAll (sCons (sCompA un1 (sItems (pure x0)) (fun q1 => ((pure q1) >>= fun y2 => t_is_whole y2))) sNil))))) (pure (.bool false)) (sBin pyEq (sCallB pySorted (sCons (pure x0) sNil)) (sRgL .list (sRg1 (sCallB DL.pyLen (sCons (pure x0) sNil))))))
def t_order_at (x0 x1 : PyData) : S PyData :=
  ((sCompA un1 (sItems (pure x1)) (fun q1 => (sBin pyIx (pure x0) (pure q1)))) >>= fun v2 => ((sCallB pySorted (sCons (pure v2) sNil)) >>= fun v3 => (sCallB pyTupOf (sCons (sCompA un1 (sItems (pure v2)) (fun q4 => (sIdx (pure v3) (pure q4)))) sNil))))
def tlb_choices_of_1 (p0 : PyData) (v : PyData) (q : PyData × PyData) : S (PyData) :=
  (((sCompA un1 (sRange2 (pure q.2) (sCallB DL.pyLen (sCons (pure p0) sNil))) (fun q3 => (sTup (sCons (sTup (sStar (pure q.1) (sCons (sBin pyIx (pure p0) (pure q3)) sNil))) (sCons (sBin pyAdd (pure q3) (pure (.int 1))) sNil))))) >>= fun y4 => extS v y4) >>= fun v5 => pure v5)
def tlb_choices_of_2 (p0 : PyData) (v : PyData) (q : PyData) : S (PyData) :=
  ((sLst sNil) >>= fun v2 => (((sItems (pure v)) >>= fun xs_ => foldS (fun w_ x_ => S.opt (un2 x_) >>= (tlb_choices_of_1 p0) w_) xs_ v2) >>= fun v8 => ((sCallB pyListOf (sCons (pure v8) sNil)) >>= fun v9 => pure v9)))
def t_choices_of (x0 x1 : PyData) : S PyData :=
  ((sLst (sCons (sTup (sCons (sTup sNil) (sCons (pure (.int 0)) sNil))) sNil)) >>= fun v1 => (((sRange1 (pure x1)) >>= fun xs_ => foldS (fun w_ x_ => S.opt (un1 x_) >>= (tlb_choices_of_2 x0) w_) xs_ v1) >>= fun v12 => (sCompA un2 (sItems (pure v12)) (fun q13 => (pure q13.1)))))
def t_copies_of (x0 x1 : PyData) : S PyData :=
  (sCallB pyTupOf (sCons (sComp un1 (sItems ((sRgL .list (sRg1 (sCallB DL.pyLen (sCons (pure x1) sNil)))) >>= fun y1 => ((sCallB DL.pyLen (sCons (pure x0) sNil)) >>= fun y2 => t_choices_of y1 y2))) (fun q3 => (sBool (sBin pyEq ((pure x1) >>= fun y4 => ((pure q3) >>= fun y5 => t_order_at y4 y5)) (pure x0)))) (fun q3 => (pure q3))) sNil))
def t_count_of (x0 x1 : PyData) : S PyData :=
  (sCallB DL.pyLen (sCons ((pure x0) >>= fun y1 => ((pure x1) >>= fun y2 => t_copies_of y1 y2)) sNil))
def t_is_number (x0 : PyData) : S PyData :=
  (sAndV (sIsi "int" (pure x0)) (sAndV (sNotV (sIsi "bool" (pure x0))) (sBin pyNe (pure x0) (pure (.int 0)))))
def t_is_pair (x0 : PyData) : S PyData :=
  (sIf (sOrT (sNotT (sBool (sIsi "tuple" (pure x0)))) (sBool (sBin pyNe (sCallB DL.pyLen (sCons (pure x0) sNil)) (pure (.int 2))))) (pure (.bool false)) (sAndV ((sBin pyIx (pure x0) (pure (.int 0))) >>= fun y1 => t_is_order y1) (sAndV (sBin pyLe (sCallB DL.pyLen (sCons (sBin pyIx (pure x0) (pure (.int 0))) sNil)) (pure (.int 6))) ((sBin pyIx (pure x0) (pure (.int 1))) >>= fun y2 => t_is_number y2))))
def t_is_form (x0 : PyData) : S PyData :=
  (sIf (sOrT (sNotT (sBool (sIsi "tuple" (pure x0)))) (sNotT (sBool (sCallB pyAll (sCons (sCompA un1 (sItems (pure x0)) (fun q1 => ((pure q1) >>= fun y2 => t_is_pair y2))) sNil))))) (pure (.bool false)) (sCallB pyAll (sCons (sCompA un2 (sZip (pure x0) (sSl (pure x0) ((pure (.int 1)) >>= partS) (pure none))) (fun q3 => (sBin pyLt (sBin pyIx (pure q3.1) (pure (.int 0))) (sBin pyIx (pure q3.2) (pure (.int 0)))))) sNil)))
def tlb_form_of_pairs_1 (v : PyData) (q : PyData × PyData) : S (PyData) :=
  ((sTPut v (sBin pyAdd (sTGet2 v (pure q.1) (pure (.int 0))) (pure q.2)) (pure q.1)) >>= fun v2 => pure v2)
def t_form_of_pairs (x0 : PyData) : S PyData :=
  ((pure (mkT [])) >>= fun v1 => (((sItems (pure x0)) >>= fun xs_ => foldS (fun w_ x_ => S.opt (un2 x_) >>= tlb_form_of_pairs_1 w_) xs_ v1) >>= fun v5 => (sCallB pyTupOf (sCons (sComp un1 (sItems (sTSort v5)) (fun q6 => (sBool (sBin pyNe (sTGet v5 (pure q6)) (pure (.int 0))))) (fun q6 => (sTup (sCons (pure q6) (sCons (sTGet v5 (pure q6)) sNil))))) sNil))))
def t_form_sum (x0 x1 : PyData) : S PyData :=
  ((sLst (sStar (pure x0) (sStar (pure x1) sNil))) >>= fun y1 => t_form_of_pairs y1)
def t_form_scaled (x0 x1 : PyData) : S PyData :=
  ((sCompA un2 (sItems (pure x1)) (fun q1 => (sTup (sCons (pure q1.1) (sCons (sBin pyMul (pure x0) (pure q1.2)) sNil))))) >>= fun y2 => t_form_of_pairs y2)
def t_form_less (x0 x1 : PyData) : S PyData :=
  ((pure x0) >>= fun y3 => (((sUn pyNeg (pure (.int 1))) >>= fun y1 => ((pure x1) >>= fun y2 => t_form_scaled y1 y2)) >>= fun y4 => t_form_sum y3 y4))
def t_form_size (x0 : PyData) : S PyData :=
  (sMaxDef (sCompA un2 (sItems (pure x0)) (fun q1 => (sCallB DL.pyLen (sCons (pure q1.1) sNil)))) (sUn pyNeg (pure (.int 1))))
def t_form_worth (x0 x1 : PyData) : S PyData :=
  (sCallB pySum (sCons (sCompA un2 (sItems (pure x0)) (fun q1 => (sBin pyMul (pure q1.2) ((pure q1.1) >>= fun y2 => ((pure x1) >>= fun y3 => t_count_of y2 y3))))) sNil))
def t__law_at (x0 x1 : PyData) : S PyData :=
  (sCallB pyTupOf (sCons (sCompA un1 (sItems (pure x1)) (fun q1 => (sCallB DL.pyLen (sCons (sComp un1 (sItems (pure x1)) (fun q2 => (sBool (sBin pyLt (sBin pyIx (pure x0) (pure q2)) (sBin pyIx (pure x0) (pure q1))))) (fun q2 => (pure q2))) sNil)))) sNil))
def tlb__law_lots_1 (p2 : PyData) (v : PyData) (q : PyData) : S (PyData) :=
  ((sBin pyAdd (pure v) (sLst (sCons (pure q) (sCons (sBin pyAdd (pure q) (sTup (sCons (pure p2) sNil))) sNil)))) >>= fun v3 => pure v3)
def tlb__law_lots_2 (v : PyData) (q : PyData) : S (PyData) :=
  ((sLst sNil) >>= fun v2 => (((sItems (pure v)) >>= fun xs_ => foldS (fun w_ x_ => S.opt (un1 x_) >>= (tlb__law_lots_1 q) w_) xs_ v2) >>= fun v6 => ((sCallB pyListOf (sCons (pure v6) sNil)) >>= fun v7 => pure v7)))
def t__law_lots (x0 : PyData) : S PyData :=
  ((sLst (sCons (sTup sNil) sNil)) >>= fun v1 => (((sRange1 (pure x0)) >>= fun xs_ => foldS (fun w_ x_ => S.opt (un1 x_) >>= tlb__law_lots_2 w_) xs_ v1) >>= fun v10 => (pure v10)))
def t__law_count (x0 x1 : PyData) : S PyData :=
  (sCallB DL.pyLen (sCons (sComp un1 (sItems ((sCallB DL.pyLen (sCons (pure x1) sNil)) >>= fun y1 => t__law_lots y1)) (fun q2 => (sAndT (sBool (sBin pyEq (sCallB DL.pyLen (sCons (pure q2) sNil)) (sCallB DL.pyLen (sCons (pure x0) sNil)))) (sBool (sBin pyEq ((pure x1) >>= fun y3 => ((pure q2) >>= fun y4 => t__law_at y3 y4)) (pure x0))))) (fun q2 => (pure q2))) sNil))
def t__law_worth (x0 x1 : PyData) : S PyData :=
  (sCallB pySum (sCons (sCompA un2 (sItems (pure x0)) (fun q1 => (sBin pyMul (pure q1.2) ((pure q1.1) >>= fun y2 => ((pure x1) >>= fun y3 => t__law_count y2 y3))))) sNil))
def tlb__law_put_1 (v : PyData) (q : PyData × PyData) : S (PyData) :=
  ((sTPut v (sBin pyAdd (sTGet2 v (pure q.1) (pure (.int 0))) (pure q.2)) (pure q.1)) >>= fun v2 => pure v2)
def t__law_put (x0 : PyData) : S PyData :=
  ((pure (mkT [])) >>= fun v1 => (((sItems (pure x0)) >>= fun xs_ => foldS (fun w_ x_ => S.opt (un2 x_) >>= tlb__law_put_1 w_) xs_ v1) >>= fun v5 => (sCallB pyTupOf (sCons (sComp un1 (sItems (sTSort v5)) (fun q6 => (sBool (sBin pyNe (sTGet v5 (pure q6)) (pure (.int 0))))) (fun q6 => (sTup (sCons (pure q6) (sCons (sTGet v5 (pure q6)) sNil))))) sNil))))
def tlb__law_is_form_1 (v : Unit) (q : PyData) : S (Out (Unit) (Unit)) :=
  (sIf (sOrT (sNotT (sBool (sIsi "tuple" (pure q)))) (sOrT (sBool (sBin pyNe (sCallB DL.pyLen (sCons (pure q) sNil)) (pure (.int 2)))) (sOrT (sNotT (sBool (sIsi "tuple" (sBin pyIx (pure q) (pure (.int 0)))))) (sBool (sBin pyGt (sCallB DL.pyLen (sCons (sBin pyIx (pure q) (pure (.int 0))) sNil)) (pure (.int 6))))))) ((pure (.bool false)) >>= fun x => pure (.ret x)) (sIf (sBool (sBin pyNe (sComp un1 (sItems (sBin pyAdd (sBin pyIx (pure q) (pure (.int 0))) (sSl (pure q) ((pure (.int 1)) >>= partS) (pure none)))) (fun q1 => (sOrT (sNotT (sBool (sIsi "int" (pure q1)))) (sBool (sIsi "bool" (pure q1))))) (fun q1 => (pure q1))) (sLst sNil))) ((pure (.bool false)) >>= fun x => pure (.ret x)) (sIf (sOrT (sBool (sBin pyNe (sCallB pySorted (sCons (sBin pyIx (pure q) (pure (.int 0))) sNil)) (sRgL .list (sRg1 (sCallB DL.pyLen (sCons (sBin pyIx (pure q) (pure (.int 0))) sNil)))))) (sBool (sBin pyEq (sBin pyIx (pure q) (pure (.int 1))) (pure (.int 0))))) ((pure (.bool false)) >>= fun x => pure (.ret x)) (pure (.nxt ())))))
def t__law_is_form (x0 : PyData) : S PyData :=
  (sIf (sNotT (sBool (sIsi "tuple" (pure x0)))) (pure (.bool false)) (((sItems (pure x0)) >>= fun xs_ => forO (κ := Empty) (fun w_ x_ => S.opt (un1 x_) >>= tlb__law_is_form_1 w_) xs_ ()) >>= outR fun v4 => ((sCompA un2 (sItems (pure x0)) (fun q5 => (pure q5.1))) >>= fun v6 => (sBin pyEq (pure v6) (sSortE (sDictT (sCompA un1 (sItems (pure v6)) (fun q7 => (sTup (sCons (pure q7) (sCons (pure (.int 0)) sNil)))))))))))
end LF
namespace LF
open PySem L2 DL
theorem comp_enc {α : Type} {e : α → PyData} {l : List α} {xs : S (List PyData)} (hx : xs = pure (l.map e)) {ct : PyData → S Bool} {ce : PyData → S PyData} (k : α → Bool) (h : α → PyData) (h1 : ∀ x ∈ l, ct (e x) = pure (k x)) (h2 : ∀ x ∈ l, ce (e x) = pure (h x)) (hl : l.length ≤ 1000) : sComp un1 xs ct ce = pure (.list ((l.filter k).map h)) := by
  subst hx
  have hc : compG (fun x => ct (e x) >>= fun b => if b then ce (e x) >>= fun y => pure (some y) else pure none) l = pure ((l.filter k).map h) := compG_eq k h fun x hx => by
    rw [h1 x hx, pure_bind]
    cases k x
    · rfl
    · rw [if_pos rfl, if_pos rfl, h2 x hx, pure_bind]
  rw [sComp_p, compG_map]
  simp only [un1_p, opt_some, pure_bind]
  rw [hc, pure_bind, sSz_eq _ (by rw [List.length_map]; exact Nat.le_trans (List.length_filter_le _ _) (by omega))]
theorem compA_enc {α : Type} {e : α → PyData} {l : List α} {xs : S (List PyData)} (hx : xs = pure (l.map e)) {ce : PyData → S PyData} (h : α → PyData) (h2 : ∀ x ∈ l, ce (e x) = pure (h x)) (hl : l.length ≤ 16000000) : sCompA un1 xs ce = pure (.list (l.map h)) := by
  subst hx
  have hc : mapG (fun x => ce (e x)) l = pure (l.map h) := mapG_eq h h2
  rw [sCompA_p, mapG_map]
  simp only [un1_p, opt_some, pure_bind]
  rw [hc, pure_bind, sSz_eq _ (by rw [List.length_map]; omega)]
/-! forms: pairs put together -/
abbrev Pr := List Int × Int
def prD (p : Pr) : PyData := .tuple [ti p.1, .int p.2]
def fmD (ps : List Pr) : PyData := .tuple (ps.map prD)
def inD (p : Pr) : PyData × PyData := (ti p.1, .int p.2)
def kz (ns : List Int) : List Key := ns.map Sum.inl
theorem kz_D (ns : List Int) : (kz ns).map keyD = ns.map .int := by
  unfold kz
  rw [List.map_map]; rfl
theorem keyT_ti (ns : List Int) : keyT (ti ns) = some (kz ns) := by
  have := keyT_keyD (kz ns)
  rw [kz_D] at this
  exact this
theorem ints_inj {x y : List Int} (e : x.map PyData.int = y.map PyData.int) : x = y := List.map_inj_right (f := PyData.int) (fun a b h => by injection h) |>.mp e
theorem ti_inj {a b : List Int} (h : ti a = ti b) : a = b := ints_inj (by injection h)
theorem kz_inj {a b : List Int} (h : kz a = kz b) : a = b := by
  have : (kz a).map keyD = (kz b).map keyD := by rw [h]
  rw [kz_D, kz_D] at this
  exact ints_inj this
theorem getT_in : ∀ (ps : List Pr) (ns : List Int), getT (ps.map inD) (kz ns) = (ps.find? fun p => p.1 == ns).map fun p => .int p.2
  | [], ns => rfl
  | p :: ps, ns => by
    rw [List.map_cons, List.find?_cons]
    unfold getT
    rw [show keyT (inD p).1 = some (kz p.1) from keyT_ti p.1]
    by_cases h : p.1 = ns
    · rw [if_pos (by rw [h]), h, beq_self_eq_true]; rfl
    · rw [if_neg (fun z => h (kz_inj (Option.some.inj z))), show (p.1 == ns) = false by simpa using h]
      exact getT_in ps ns
def oldP (ps : List Pr) (ns : List Int) : Int := match ps.find? fun p => p.1 == ns with
  | some p => p.2
  | none => 0
def putP (ps : List Pr) (ns : List Int) (c : Int) : List Pr := if (ps.find? fun p => p.1 == ns).isSome then ps.map fun p => if p.1 = ns then (p.1, c) else p else ps ++ [(ns, c)]
theorem putT_in (ps : List Pr) (ns : List Int) (c : Int) : putT (ps.map inD) (kz ns) (.int c) = (putP ps ns c).map inD := by
  unfold putT putP
  rw [getT_in, Option.isSome_map]
  split
  · rw [List.map_map, List.map_map]
    refine List.map_congr_left fun p _ => ?_
    show (if keyT (inD p).1 = some (kz ns) then ((inD p).1, PyData.int c) else inD p) = inD (if p.1 = ns then (p.1, c) else p)
    rw [show keyT (inD p).1 = some (kz p.1) from keyT_ti p.1]
    by_cases h : p.1 = ns
    · rw [if_pos (by rw [h]), if_pos h]; rfl
    · rw [if_neg (fun z => h (kz_inj (Option.some.inj z))), if_neg h]
  · rw [List.map_append, kz_D]; rfl
def dT (ps : List Pr) : PyData := mkT (ps.map inD)
theorem sTGet2_in (ps : List Pr) (ns : List Int) : sTGet2 (dT ps) (pure (ti ns)) (pure (.int 0)) = pure (.int (oldP ps ns)) := by
  unfold sTGet2 dT
  simp only [pure_bind, tdIn, mkT, keyT_ti, getT_in, opt_some]
  unfold oldP
  cases ps.find? (fun p => p.1 == ns) <;> rfl
theorem find_some {ps : List Pr} {ns : List Int} (h : ns ∈ ps.map (·.1)) : ∃ p ∈ ps, p.1 = ns ∧ (ps.find? fun p => p.1 == ns) = some p := by
  cases q : ps.find? (fun p => p.1 == ns) with
  | none =>
    obtain ⟨p, hp, rfl⟩ := List.mem_map.mp h
    have := List.find?_eq_none.mp q p hp
    simp at this
  | some p =>
    have h1 := List.find?_some q
    exact ⟨p, List.mem_of_find?_eq_some q, by simpa using h1, rfl⟩
theorem find_isSome (ps : List Pr) (ns : List Int) : (ps.find? fun p => p.1 == ns).isSome = true ↔ ns ∈ ps.map (·.1) := by
  constructor
  · intro h
    obtain ⟨p, hp⟩ := Option.isSome_iff_exists.mp h
    have h1 := List.find?_some hp
    exact List.mem_map.mpr ⟨p, List.mem_of_find?_eq_some hp, by simpa using h1⟩
  · intro h
    obtain ⟨p, _, _, e⟩ := find_some h
    rw [e]; rfl
theorem old_not {ps : List Pr} {ns : List Int} (h : ns ∉ ps.map (·.1)) : oldP ps ns = 0 := by
  unfold oldP
  cases q : ps.find? (fun p => p.1 == ns) with
  | none => rfl
  | some p => exact absurd ((find_isSome ps ns).mp (by rw [q]; rfl)) h
theorem put_keys (ps : List Pr) (ns : List Int) (c : Int) : (putP ps ns c).map (·.1) = if ns ∈ ps.map (·.1) then ps.map (·.1) else ps.map (·.1) ++ [ns] := by
  unfold putP
  by_cases h : ns ∈ ps.map (·.1)
  · rw [if_pos ((find_isSome ps ns).mpr h), if_pos h, List.map_map]
    refine List.map_congr_left fun p _ => ?_
    show (if p.1 = ns then (p.1, c) else p).1 = p.1
    split <;> rfl
  · rw [if_neg (fun z => h ((find_isSome ps ns).mp z)), if_neg h, List.map_append]; rfl
theorem put_nodup {ps : List Pr} (h : (ps.map (·.1)).Nodup) (ns : List Int) (c : Int) : ((putP ps ns c).map (·.1)).Nodup := by
  rw [put_keys]
  split
  · exact h
  · rename_i hn
    refine List.nodup_append.mpr ⟨h, by simp, fun a ha b hb => ?_⟩
    rw [List.mem_singleton.mp hb]
    exact fun z => hn (z ▸ ha)
theorem old_cons (p : Pr) (ps : List Pr) (ms : List Int) : oldP (p :: ps) ms = if p.1 = ms then p.2 else oldP ps ms := by
  unfold oldP
  rw [List.find?_cons]
  by_cases h : p.1 = ms
  · rw [if_pos h, h, beq_self_eq_true]
  · rw [if_neg h, show (p.1 == ms) = false by simpa using h]
theorem old_put (ps : List Pr) (ns : List Int) (c : Int) (ms : List Int) : oldP (putP ps ns c) ms = if ns = ms then c else oldP ps ms := by
  unfold putP
  by_cases h : ns ∈ ps.map (·.1)
  · rw [if_pos ((find_isSome ps ns).mpr h)]
    induction ps with
    | nil => simp at h
    | cons p ps ih =>
      rw [List.map_cons, old_cons, old_cons]
      by_cases hp : p.1 = ns
      · rw [if_pos hp]
        show (if p.1 = ms then c else _) = _
        by_cases hm : ns = ms
        · rw [if_pos (hp.trans hm), if_pos hm]
        · rw [if_neg (fun z => hm (hp.symm.trans z)), if_neg hm, if_neg (fun z => hm (hp.symm.trans z))]
          by_cases h2 : ns ∈ ps.map (·.1)
          · rw [ih h2, if_neg hm]
          · congr 1
            have : ∀ q ∈ ps, (fun p : Pr => if p.1 = ns then (p.1, c) else p) q = q := fun q hq => if_neg fun z => h2 (List.mem_map.mpr ⟨q, hq, z⟩)
            rw [List.map_congr_left this]; simp
      · rw [if_neg hp]
        have h2 : ns ∈ ps.map (·.1) := by
          rw [List.map_cons] at h
          rcases List.mem_cons.mp h with h | h
          · exact absurd h.symm hp
          · exact h
        rw [ih h2]
        by_cases hm : p.1 = ms
        · rw [if_pos hm, if_pos hm, if_neg (fun z => hp (hm.trans z.symm))]
        · rw [if_neg hm, if_neg hm]
  · rw [if_neg (fun z => h ((find_isSome ps ns).mp z))]
    have main : ∀ ps : List Pr, ns ∉ ps.map (·.1) → oldP (ps ++ [(ns, c)]) ms = if ns = ms then c else oldP ps ms := by
      intro ps
      induction ps with
      | nil =>
        intro _
        rw [List.nil_append, old_cons]
      | cons p ps ih =>
        intro h
        rw [List.cons_append, old_cons, old_cons]
        have h1 : p.1 ≠ ns := fun z => h (by simp [z])
        have h2 : ns ∉ ps.map (·.1) := fun z => h (by rw [List.map_cons]; exact List.mem_cons_of_mem _ z)
        rw [ih h2]
        by_cases hm : p.1 = ms
        · rw [if_pos hm, if_pos hm, if_neg (fun z => h1 (hm.trans z.symm))]
        · rw [if_neg hm, if_neg hm]
    exact main ps h
/-- all pairs, put into d -/
def putAll (ps d : List Pr) : List Pr := ps.foldl (fun d p => putP d p.1 (oldP d p.1 + p.2)) d
def sumK (ps : List Pr) (ns : List Int) : Int := ((ps.filter fun p => p.1 == ns).map (·.2)).sum
theorem sumK_cons (p : Pr) (ps : List Pr) (ns : List Int) : sumK (p :: ps) ns = (if p.1 = ns then p.2 else 0) + sumK ps ns := by
  unfold sumK
  rw [List.filter_cons]
  by_cases h : p.1 = ns
  · rw [if_pos (by simpa using h), if_pos h, List.map_cons, List.sum_cons]
  · rw [if_neg (by simpa using h), if_neg h]; simp
theorem sumK_app (ps qs : List Pr) (ns : List Int) : sumK (ps ++ qs) ns = sumK ps ns + sumK qs ns := by
  unfold sumK
  rw [List.filter_append, List.map_append, List.sum_append]
theorem sumK_perm {ps qs : List Pr} (h : ps.Perm qs) (ns : List Int) : sumK ps ns = sumK qs ns := by
  induction h with
  | nil => rfl
  | cons p _ ih => rw [sumK_cons, sumK_cons, ih]
  | swap p q l => rw [sumK_cons, sumK_cons, sumK_cons, sumK_cons]; omega
  | trans _ _ h1 h2 => exact h1.trans h2
theorem putAll_old : ∀ (ps d : List Pr) (ns : List Int), oldP (putAll ps d) ns = oldP d ns + sumK ps ns
  | [], d, ns => by show oldP d ns = _ + 0; omega
  | p :: ps, d, ns => by
    show oldP (putAll ps (putP d p.1 (oldP d p.1 + p.2))) ns = _
    rw [putAll_old ps, old_put, sumK_cons]
    by_cases h : p.1 = ns
    · rw [if_pos h, if_pos h, h]; omega
    · rw [if_neg h, if_neg h]; omega
theorem putAll_nodup : ∀ (ps d : List Pr), (d.map (·.1)).Nodup → ((putAll ps d).map (·.1)).Nodup
  | [], d, h => h
  | p :: ps, d, h => putAll_nodup ps _ (put_nodup h _ _)
theorem putAll_len : ∀ (ps d : List Pr), (putAll ps d).length ≤ d.length + ps.length
  | [], d => Nat.le_refl _
  | p :: ps, d => by
    have h1 := putAll_len ps (putP d p.1 (oldP d p.1 + p.2))
    have h2 : (putP d p.1 (oldP d p.1 + p.2)).length ≤ d.length + 1 := by
      unfold putP
      split <;> simp
    simp only [List.length_cons]
    show (putAll ps (putP d p.1 (oldP d p.1 + p.2))).length ≤ _
    omega
theorem putAll_keys : ∀ (ps d : List Pr) (ns : List Int), ns ∈ (putAll ps d).map (·.1) → ns ∈ d.map (·.1) ∨ ns ∈ ps.map (·.1)
  | [], d, ns, h => .inl h
  | p :: ps, d, ns, h => by
    rcases putAll_keys ps _ ns h with h | h
    · rw [put_keys] at h
      split at h
      · exact .inl h
      · rcases List.mem_append.mp h with h | h
        · exact .inl h
        · rw [List.mem_singleton.mp h]; exact .inr (by simp)
    · exact .inr (by rw [List.map_cons]; exact List.mem_cons_of_mem _ h)
/-- the form that a dict tells -/
def formD (d : List Pr) : List Pr := ((LO.sortRows (d.map (·.1))).filter fun ns => decide (oldP d ns ≠ 0)).map fun ns => (ns, oldP d ns)
def formOf (ps : List Pr) : List Pr := formD (putAll ps [])
theorem t_put_eq : t__law_put = t_form_of_pairs := rfl
theorem fold_form : ∀ (ps d : List Pr), d.length + ps.length ≤ 1000 → foldS (fun w_ x_ => S.opt (un2 x_) >>= tlb_form_of_pairs_1 w_) (ps.map prD) (dT d) = pure (dT (putAll ps d))
  | [], d, _ => rfl
  | p :: ps, d, h => by
    rw [List.length_cons] at h
    have hl : (d.map inD).length < sizeLine := by rw [List.length_map, sizeLine_eq]; omega
    have s1 : S.opt (un2 (prD p)) >>= tlb_form_of_pairs_1 (dT d) = pure (dT (putP d p.1 (oldP d p.1 + p.2))) := by
      show (S.opt (some (ti p.1, PyData.int p.2)) >>= _) = _
      rw [opt_some, pure_bind]
      unfold tlb_form_of_pairs_1
      simp only [sTGet2_in, sBin_p, pyAdd_ii, sOp_d]
      unfold sTPut
      simp only [pure_bind, dT, tdIn, mkT, keyT_ti, hl, if_true, opt_some, putT_in]
    rw [List.map_cons, foldS_cons, s1, pure_bind]
    refine fold_form ps _ ?_
    have : (putP d p.1 (oldP d p.1 + p.2)).length ≤ d.length + 1 := by
      unfold putP
      split <;> simp
    omega
theorem sort_items (d : List Pr) : sItems (sTSort (dT d)) = pure ((LO.sortRows (d.map (·.1))).map ti) := by
  have hrows : (d.map inD).map (·.1) = (d.map (·.1)).map ti := by rw [List.map_map, List.map_map]; rfl
  unfold sTSort dT
  simp only [tdIn, mkT, hrows, LO.sortOk_rows, if_true, opt_some, LO.sortD_rows, sItems_l]
theorem sTGet_in {d : List Pr} {ns : List Int} (h : ns ∈ d.map (·.1)) : sTGet (dT d) (pure (ti ns)) = pure (.int (oldP d ns)) := by
  obtain ⟨p, hp, e1, e2⟩ := find_some h
  unfold sTGet dT
  simp only [pure_bind, tdIn, mkT, keyT_ti, getT_in, e2, Option.map_some, opt_some, oldP]
theorem form_tail {d : List Pr} (hl : d.length ≤ 1000) : (sCallB pyTupOf (sCons (sComp un1 (sItems (sTSort (dT d))) (fun q6 => (sBool (sBin pyNe (sTGet (dT d) (pure q6)) (pure (.int 0))))) (fun q6 => (sTup (sCons (pure q6) (sCons (sTGet (dT d) (pure q6)) sNil))))) sNil)) = pure (fmD (formD d)) := by
  have hmem : ∀ ns ∈ LO.sortRows (d.map (·.1)), ns ∈ d.map (·.1) := fun ns hns => (LO.sortRows_perm _).mem_iff.mp hns
  have hc := comp_enc (sort_items d) (ct := fun q11 => (sBool (sBin pyNe (sTGet (dT d) (pure q11)) (pure (.int 0))))) (ce := fun q11 => (sTup (sCons (pure q11) (sCons (sTGet (dT d) (pure q11)) sNil))))
    (fun ns => decide (oldP d ns ≠ 0)) (fun ns => prD (ns, oldP d ns))
    (fun ns hns => by simp only [sTGet_in (hmem ns hns), sBin_p, pyNe_ii, sOp_d, sBool_p])
    (fun ns hns => by simp only [sTGet_in (hmem ns hns), sNil_p, sCons_p, sTup_p, sSz_2]; rfl)
    (by rw [(LO.sortRows_perm _).length_eq, List.length_map]; exact hl)
  rw [hc]
  simp only [sNil_p, sCons_p, sCallB_p, tupOf_l, sOp_d]
  unfold fmD formD
  rw [List.map_map]; rfl
theorem form_of_any {x : PyData} {ps : List Pr} (hx : sItems (pure x) = pure (ps.map prD)) (h : ps.length ≤ 1000) : t_form_of_pairs x = pure (fmD (formOf ps)) := by
  unfold t_form_of_pairs
  rw [pure_bind, hx, pure_bind]
  have := fold_form ps [] (by simpa using h)
  rw [show mkT [] = dT [] from rfl, this, pure_bind]
  exact form_tail (by have := putAll_len ps []; simp at this; omega)
theorem t_form_of_pairs_l {ps : List Pr} (h : ps.length ≤ 1000) : t_form_of_pairs (.list (ps.map prD)) = pure (fmD (formOf ps)) := form_of_any (sItems_l _) h
theorem t_form_of_pairs_t {ps : List Pr} (h : ps.length ≤ 1000) : t_form_of_pairs (fmD ps) = pure (fmD (formOf ps)) := form_of_any (sItems_t _) h
end LF
namespace LF
open PySem L2 DL
theorem row_lt {a b : List Int} (h : a ≤ b) (n : a ≠ b) : a < b := Classical.byContradiction fun z => n (List.le_antisymm h (List.not_lt.mp z))
structure Can (f : List Pr) : Prop where
  p : (f.map (·.1)).Pairwise (· < ·)
  z : ∀ p ∈ f, p.2 ≠ 0
theorem Can.nodup {f : List Pr} (h : Can f) : (f.map (·.1)).Nodup := h.p.imp fun h e => by rw [e] at h; exact List.lt_irrefl _ h
theorem formD_keys (d : List Pr) : (formD d).map (·.1) = (LO.sortRows (d.map (·.1))).filter fun ns => decide (oldP d ns ≠ 0) := by
  unfold formD
  rw [List.map_map]
  exact (List.map_congr_left fun _ _ => rfl).trans (List.map_id _)
theorem formD_can {d : List Pr} (h : (d.map (·.1)).Nodup) : Can (formD d) := by
  refine ⟨?_, fun p hp => ?_⟩
  · rw [formD_keys]
    refine List.Pairwise.filter _ ?_
    have h1 := LO.sortRows_pw (d.map (·.1))
    have h2 : (LO.sortRows (d.map (·.1))).Nodup := (LO.sortRows_perm _).nodup_iff.mpr h
    exact (h1.and h2).imp fun ⟨a, b⟩ => row_lt a b
  · obtain ⟨ns, hns, rfl⟩ := List.mem_map.mp hp
    exact of_decide_eq_true (List.mem_filter.mp hns).2
theorem formOf_can (ps : List Pr) : Can (formOf ps) := formD_can (putAll_nodup ps [] (by simp))
theorem putAll0 (ps : List Pr) (ns : List Int) : oldP (putAll ps []) ns = sumK ps ns := by
  rw [putAll_old]
  show 0 + _ = _
  omega
theorem formOf_mem (ps : List Pr) (p : Pr) : p ∈ formOf ps ↔ p.2 = sumK ps p.1 ∧ p.2 ≠ 0 := by
  unfold formOf formD
  constructor
  · intro h
    obtain ⟨ns, hns, rfl⟩ := List.mem_map.mp h
    have h2 := of_decide_eq_true (List.mem_filter.mp hns).2
    exact ⟨putAll0 ps ns, h2⟩
  · rintro ⟨h1, h2⟩
    refine List.mem_map.mpr ⟨p.1, List.mem_filter.mpr ⟨(LO.sortRows_perm _).mem_iff.mpr ?_, ?_⟩, ?_⟩
    · refine Classical.byContradiction fun z => h2 ?_
      rw [h1, ← putAll0]
      exact old_not z
    · rw [putAll0, ← h1]
      exact decide_eq_true h2
    · show (p.1, oldP (putAll ps []) p.1) = p
      rw [putAll0, ← h1]
theorem same_list {f g : List Pr} (hf : (f.map (·.1)).Pairwise (· < ·)) (hg : (g.map (·.1)).Pairwise (· < ·)) (h : ∀ p, p ∈ f ↔ p ∈ g) : f = g := by
  have irr : ∀ {a b : List Int}, a < b → a ≠ b := fun h e => by rw [e] at h; exact List.lt_irrefl _ h
  have nf : f.Nodup := List.Pairwise.imp (fun {a b} (h : a.1 < b.1) (e : a = b) => irr h (by rw [e])) (List.pairwise_map.mp hf)
  have ng : g.Nodup := List.Pairwise.imp (fun {a b} (h : a.1 < b.1) (e : a = b) => irr h (by rw [e])) (List.pairwise_map.mp hg)
  have hp : f.Perm g := (List.perm_ext_iff_of_nodup nf ng).mpr h
  refine List.Perm.eq_of_pairwise (le := fun p q : Pr => p.1 < q.1) (fun a b _ _ h1 h2 => absurd (List.lt_trans h1 h2) (List.lt_irrefl _)) (List.pairwise_map.mp hf) (List.pairwise_map.mp hg) hp
theorem sumK_not {f : List Pr} {ns : List Int} (h : ns ∉ f.map (·.1)) : sumK f ns = 0 := by
  induction f with
  | nil => rfl
  | cons p f ih =>
    rw [sumK_cons, if_neg (fun z => h (by simp [z])), ih (fun z => h (by rw [List.map_cons]; exact List.mem_cons_of_mem _ z))]
    rfl
theorem sumK_mem {f : List Pr} (hn : (f.map (·.1)).Nodup) {p : Pr} (h : p ∈ f) : sumK f p.1 = p.2 := by
  induction f with
  | nil => cases h
  | cons q f ih =>
    rw [List.map_cons, List.nodup_cons] at hn
    rw [sumK_cons]
    rcases List.mem_cons.mp h with rfl | h
    · rw [if_pos rfl, sumK_not hn.1]; omega
    · rw [if_neg (fun z => hn.1 (by rw [z]; exact List.mem_map.mpr ⟨p, h, rfl⟩)), ih hn.2 h]; omega
theorem sumK_form (ps : List Pr) (ns : List Int) : sumK (formOf ps) ns = sumK ps ns := by
  by_cases h : sumK ps ns = 0
  · rw [h]
    refine sumK_not fun z => ?_
    obtain ⟨p, hp, rfl⟩ := List.mem_map.mp z
    have := (formOf_mem ps p).mp hp
    exact this.2 (this.1.trans h)
  · have hm : ((ns, sumK ps ns) : Pr) ∈ formOf ps := (formOf_mem ps _).mpr ⟨rfl, h⟩
    exact sumK_mem (formOf_can ps).nodup hm
theorem formOf_ext {ps qs : List Pr} (h : ∀ ns, sumK ps ns = sumK qs ns) : formOf ps = formOf qs :=
  same_list (formOf_can ps).p (formOf_can qs).p fun p => by rw [formOf_mem, formOf_mem, h]
theorem formOf_self {f : List Pr} (h : Can f) : formOf f = f := same_list (formOf_can f).p h.p fun p => by
  rw [formOf_mem]
  constructor
  · rintro ⟨h1, h2⟩
    by_cases hk : p.1 ∈ f.map (·.1)
    · obtain ⟨q, hq, e⟩ := List.mem_map.mp hk
      have := sumK_mem h.nodup hq
      rw [e, ← h1] at this
      have : q = p := Prod.ext e this.symm
      exact this ▸ hq
    · rw [sumK_not hk] at h1
      exact absurd h1 h2
  · intro hp
    exact ⟨(sumK_mem h.nodup hp).symm, h.z p hp⟩
/-! worths -/
def W (f : List Int → Int) (ps : List Pr) : Int := (ps.map fun p => p.2 * f p.1).sum
theorem W_cons (f : List Int → Int) (p : Pr) (ps : List Pr) : W f (p :: ps) = p.2 * f p.1 + W f ps := by
  unfold W; rw [List.map_cons, List.sum_cons]
theorem W_app (f : List Int → Int) (ps qs : List Pr) : W f (ps ++ qs) = W f ps + W f qs := by
  unfold W; rw [List.map_append, List.sum_append]
theorem W_put (f : List Int → Int) : ∀ (d : List Pr) (ns : List Int) (c : Int), (d.map (·.1)).Nodup → W f (putP d ns c) = W f d + (c - oldP d ns) * f ns
  | [], ns, c, _ => by
    show W f [(ns, c)] = 0 + (c - 0) * f ns
    rw [W_cons]
    show c * f ns + 0 = _
    simp
  | p :: d, ns, c, h => by
    rw [List.map_cons, List.nodup_cons] at h
    by_cases hp : p.1 = ns
    · have hn : ns ∉ d.map (·.1) := hp ▸ h.1
      have e : putP (p :: d) ns c = (ns, c) :: d := by
        unfold putP
        rw [if_pos ((find_isSome _ _).mpr (by simp [hp])), List.map_cons, if_pos hp, hp]
        congr 1
        have : ∀ q ∈ d, (fun p : Pr => if p.1 = ns then (p.1, c) else p) q = q := fun q hq => if_neg fun z => hn (List.mem_map.mpr ⟨q, hq, z⟩)
        rw [List.map_congr_left this]; simp
      rw [e, W_cons, W_cons, old_cons, if_pos hp, hp]
      show c * f ns + _ = _
      rw [Int.sub_mul]; omega
    · have e : putP (p :: d) ns c = p :: putP d ns c := by
        unfold putP
        rw [show ((p :: d).find? fun p => p.1 == ns) = d.find? fun p => p.1 == ns by rw [List.find?_cons, show (p.1 == ns) = false by simpa using hp]]
        by_cases h2 : (d.find? fun p => p.1 == ns).isSome = true
        · rw [if_pos h2, if_pos h2, List.map_cons, if_neg hp]
        · rw [if_neg h2, if_neg h2]; rfl
      rw [e, W_cons, W_cons, W_put f d ns c h.2, old_cons, if_neg hp]
      omega
theorem W_putAll (f : List Int → Int) : ∀ (ps d : List Pr), (d.map (·.1)).Nodup → W f (putAll ps d) = W f d + W f ps
  | [], d, _ => by show W f d = _ + 0; omega
  | p :: ps, d, h => by
    show W f (putAll ps (putP d p.1 (oldP d p.1 + p.2))) = _
    rw [W_putAll f ps _ (put_nodup h _ _), W_put f d _ _ h, W_cons]
    rw [show oldP d p.1 + p.2 - oldP d p.1 = p.2 by omega]
    omega
theorem sum_perm {a b : List Int} (h : a.Perm b) : a.sum = b.sum := by
  induction h with
  | nil => rfl
  | cons p _ ih => rw [List.sum_cons, List.sum_cons, ih]
  | swap p q l => simp only [List.sum_cons]; omega
  | trans _ _ h1 h2 => exact h1.trans h2
theorem sum_filter {α : Type} (k : α → Bool) (g : α → Int) : ∀ l : List α, (∀ x ∈ l, k x = false → g x = 0) → ((l.filter k).map g).sum = (l.map g).sum
  | [], _ => rfl
  | x :: l, h => by
    have ih := sum_filter k g l fun y hy => h y (List.mem_cons_of_mem _ hy)
    rw [List.filter_cons, List.map_cons, List.sum_cons]
    cases e : k x with
    | true => rw [if_pos rfl, List.map_cons, List.sum_cons, ih]
    | false =>
      rw [if_neg (by simp), ih, h x (by simp) e]
      omega
theorem old_mem {d : List Pr} (h : (d.map (·.1)).Nodup) {p : Pr} (hp : p ∈ d) : oldP d p.1 = p.2 := by
  induction d with
  | nil => cases hp
  | cons q d ih =>
    rw [List.map_cons, List.nodup_cons] at h
    rw [old_cons]
    rcases List.mem_cons.mp hp with rfl | hp
    · rw [if_pos rfl]
    · rw [if_neg (fun z => h.1 (by rw [z]; exact List.mem_map.mpr ⟨p, hp, rfl⟩)), ih h.2 hp]
theorem W_formD (f : List Int → Int) {d : List Pr} (h : (d.map (·.1)).Nodup) : W f (formD d) = W f d := by
  have e1 : W f (formD d) = (((LO.sortRows (d.map (·.1))).filter fun ns => decide (oldP d ns ≠ 0)).map fun ns => oldP d ns * f ns).sum := by
    unfold W formD
    rw [List.map_map]; rfl
  rw [e1, sum_filter _ _ _ fun ns _ hk => by
    have : oldP d ns = 0 := Classical.byContradiction fun z => by rw [decide_eq_true z] at hk; cases hk
    rw [this, Int.zero_mul]]
  rw [sum_perm ((LO.sortRows_perm _).map _)]
  unfold W
  rw [List.map_map]
  congr 1
  refine List.map_congr_left fun p hp => ?_
  show oldP d p.1 * _ = _
  rw [old_mem h hp]
theorem W_form (f : List Int → Int) (ps : List Pr) : W f (formOf ps) = W f ps := by
  unfold formOf
  rw [W_formD f (putAll_nodup ps [] (by simp)), W_putAll f ps [] (by simp)]
  show 0 + _ = _
  omega
theorem formOf_len (ps : List Pr) : (formOf ps).length ≤ ps.length := by
  unfold formOf formD
  rw [List.length_map]
  refine Nat.le_trans (List.length_filter_le _ _) ?_
  rw [(LO.sortRows_perm _).length_eq, List.length_map]
  have := putAll_len ps []
  simpa using this
theorem formOf_key {ps : List Pr} {p : Pr} (h : p ∈ formOf ps) : p.1 ∈ ps.map (·.1) := by
  refine Classical.byContradiction fun z => ?_
  have := (formOf_mem ps p).mp h
  rw [sumK_not z] at this
  exact this.2 this.1
theorem sumK_le {B : Nat} : ∀ {ps : List Pr} {ns : List Int}, (∀ p ∈ ps, p.2.natAbs ≤ B) → (sumK ps ns).natAbs ≤ ps.length * B
  | [], ns, _ => by show (0 : Int).natAbs ≤ _; simp
  | p :: ps, ns, h => by
    rw [sumK_cons, List.length_cons, Nat.succ_mul]
    have h1 := sumK_le (ns := ns) fun q hq => h q (List.mem_cons_of_mem _ hq)
    have h2 := h p (by simp)
    split <;> omega
end LF
namespace LF
open PySem L2 DL
theorem t_form_sum_eq {a b : List Pr} (h : a.length + b.length ≤ 1000) : t_form_sum (fmD a) (fmD b) = pure (fmD (formOf (a ++ b))) := by
  unfold t_form_sum
  have e : sLst (sStar (pure (fmD a)) (sStar (pure (fmD b)) sNil)) = (pure (.list ((a ++ b).map prD)) : S PyData) := by
    unfold fmD
    rw [sNil_p, sStar_t, sStar_t, sLst_p, sSz_eq _ (by simp; omega), List.append_nil, List.map_append]
  rw [e, pure_bind]
  exact t_form_of_pairs_l (by rw [List.length_append]; exact h)
def scaleP (c : Int) (a : List Pr) : List Pr := a.map fun p => (p.1, c * p.2)
def Zc (a : List Pr) : Prop := ∀ p ∈ a, LR.Zk 500 p.2
theorem scale_list {c : Int} {a : List Pr} (zc : LR.Zk 500 c) (za : Zc a) (h : a.length ≤ 1000) (x : PyData) (hx : sItems (pure x) = pure (a.map prD)) : (sCompA un2 (sItems (pure x)) (fun q1 => (sTup (sCons (pure q1.1) (sCons (sBin pyMul (pure (.int c)) (pure q1.2)) sNil))))) = (pure (.list ((scaleP c a).map prD)) : S PyData) := by
  rw [hx]
  have hc : mapG (fun p : Pr => S.opt (un2 (prD p)) >>= fun q1 => (sTup (sCons (pure q1.1) (sCons (sBin pyMul (pure (.int c)) (pure q1.2)) sNil)))) a = pure (a.map fun p => prD (p.1, c * p.2)) := mapG_eq _ fun p hp => by
    show (S.opt (some (ti p.1, PyData.int p.2)) >>= _) = _
    simp only [opt_some, pure_bind, sBin_p, LR.mul_z zc (za p hp) (by omega), sOp_d, sNil_p, sCons_p, sTup_p, sSz_2]
    rfl
  rw [sCompA_p, mapG_map]
  rw [hc, pure_bind, sSz_eq _ (by rw [List.length_map]; omega)]
  unfold scaleP
  rw [List.map_map]
  rfl
theorem neg_list {a : List Pr} (h : a.length ≤ 1000) (x : PyData) (hx : sItems (pure x) = pure (a.map prD)) : (sCompA un2 (sItems (pure x)) (fun q1 => (sTup (sCons (pure q1.1) (sCons (sBin pySub (pure (.int 0)) (pure q1.2)) sNil))))) = (pure (.list ((scaleP (-1) a).map prD)) : S PyData) := by
  rw [hx]
  have hc : mapG (fun p : Pr => S.opt (un2 (prD p)) >>= fun q1 => (sTup (sCons (pure q1.1) (sCons (sBin pySub (pure (.int 0)) (pure q1.2)) sNil)))) a = pure (a.map fun p => prD (p.1, (-1) * p.2)) := mapG_eq _ fun p hp => by
    show (S.opt (some (ti p.1, PyData.int p.2)) >>= _) = _
    simp only [opt_some, pure_bind, sBin_p, pySub_ii, sOp_d, sNil_p, sCons_p, sTup_p, sSz_2]
    rw [show (0 : Int) - p.2 = (-1) * p.2 by omega]
    rfl
  rw [sCompA_p, mapG_map]
  rw [hc, pure_bind, sSz_eq _ (by rw [List.length_map]; omega)]
  unfold scaleP
  rw [List.map_map]
  rfl
theorem scaleP_len (c : Int) (a : List Pr) : (scaleP c a).length = a.length := List.length_map _
theorem sumK_scale (c : Int) (a : List Pr) (ns : List Int) : sumK (scaleP c a) ns = c * sumK a ns := by
  induction a with
  | nil => show (0 : Int) = c * 0; simp
  | cons p a ih =>
    show sumK ((p.1, c * p.2) :: scaleP c a) ns = _
    rw [sumK_cons, sumK_cons, ih, Int.mul_add]
    by_cases h : p.1 = ns
    · rw [if_pos h, if_pos h]
    · rw [if_neg h, if_neg h]; simp
theorem t_form_scaled_eq {c : Int} {a : List Pr} (zc : LR.Zk 500 c) (za : Zc a) (h : a.length ≤ 1000) : t_form_scaled (.int c) (fmD a) = pure (fmD (formOf (scaleP c a))) := by
  unfold t_form_scaled
  rw [scale_list zc za h (fmD a) (sItems_t _), pure_bind]
  exact t_form_of_pairs_l (by rw [scaleP_len]; exact h)
theorem zm1 : LR.Zk 500 (-1) := by show (1 : Nat) < 2 ^ 500; exact Nat.one_lt_two_pow (by omega)
theorem t_form_less_eq {a b : List Pr} (zb : Zc b) (h : a.length + b.length ≤ 1000) : t_form_less (fmD a) (fmD b) = pure (fmD (formOf (a ++ scaleP (-1) b))) := by
  have e : (sUn pyNeg (pure (.int 1)) : S PyData) = pure (.int (-1)) := rfl
  have hl := formOf_len (scaleP (-1) b)
  rw [scaleP_len] at hl
  unfold t_form_less
  simp only [e, pure_bind, t_form_scaled_eq zm1 zb (show b.length ≤ 1000 by omega)]
  rw [t_form_sum_eq (by omega)]
  congr 2
  refine formOf_ext fun ns => ?_
  rw [sumK_app, sumK_app, sumK_form]
/-! counts, worths -/
abbrev b_at : t_order_at = LO.t_order_at := rfl
theorem h7 : ∀ n : Fin 7, ∀ i : Fin 7, (LO.chP (ints0 n.1) i.1).length ≤ 1000000 := by decide +kernel
theorem h7b : ∀ n : Fin 7, ∀ i : Fin 7, (LO.chI (ints0 n.1) i.1).length ≤ 1000 := by decide +kernel
def cnt (p s : List Int) : Int := ((LO.copiesI p s).length : Int)
theorem t_count_of_eq {p s : List Int} (hs : s.length ≤ 6) (hp : p.length ≤ 6) : t_count_of (ti p) (ti s) = pure (.int (cnt p s)) := by
  have e : t_copies_of (ti p) (ti s) = pure (.tuple ((LO.copiesI p s).map ti)) := LO.t_copies_of_eq (by omega) (by omega) fun i hi => h7 ⟨s.length, by omega⟩ ⟨i, by omega⟩
  unfold t_count_of
  have hl : (LO.copiesI p s).length ≤ 1000 := Nat.le_trans (List.length_filter_le _ _) (h7b ⟨s.length, by omega⟩ ⟨p.length, by omega⟩)
  simp only [pure_bind, e, sNil_p, sCons_p, sCallB_p, len_t, List.length_map, sOp_d]
  rfl
theorem t__law_count_eq {p s : List Int} (hs : s.length ≤ 6) (hp : p.length ≤ 6) (nd : s.Nodup) : t__law_count (ti p) (ti s) = pure (.int (cnt p s)) := by
  unfold t__law_count
  have hlots : (sItems ((sCallB DL.pyLen (sCons (pure (ti s)) sNil)) >>= fun y1 => t__law_lots y1)) = pure ((LO.lotsI s.length).map ti) := by
    simp only [sNil_p, sCons_p, sCallB_p, len_t, List.length_map, sOp_d, pure_bind]
    rw [show t__law_lots (.int (s.length : Int)) = _ from LO.t__law_lots_eq (n := s.length) (by omega)]
    exact sItems_l _
  have hc := comp_enc hlots (ct := fun q2 => (sAndT (sBool (sBin pyEq (sCallB DL.pyLen (sCons (pure q2) sNil)) (sCallB DL.pyLen (sCons (pure (ti p)) sNil)))) (sBool (sBin pyEq ((pure (ti s)) >>= fun y3 => ((pure q2) >>= fun y4 => t__law_at y3 y4)) (pure (ti p)))))) (ce := fun q2 => (pure q2))
    (fun r => decide (r.length = p.length) && decide (orderAt s r = p)) ti
    (fun r hr => by
      have ha := (LO.asc_iff _ _).mp hr
      have hal : t__law_at (ti s) (ti r) = pure (ti (orderAt s r)) := by
        rw [← LO.at_alike (LO.nodup_at nd ha.nodup ha.2)]
        exact LO.t__law_at_eq ha.2 (by have := ha.len; omega)
      simp only [sNil_p, sCons_p, sCallB_p, len_t, List.length_map, sOp_d, pure_bind, hal, sBin_p, pyEq_ii, sBool_p, sAndT_p]
      by_cases h1 : r.length = p.length
      · rw [decide_eq_true (show (r.length : Int) = (p.length : Int) by omega), if_pos rfl, decide_eq_true h1, Bool.true_and]
        have hq : pyEq (ti (orderAt s r)) (ti p) = some (.d (.bool (decide (orderAt s r = p)))) := pyEq_tt _ _
        rw [hq, sOp_d, sBool_p]
      · rw [decide_eq_false (show ¬ (r.length : Int) = (p.length : Int) by omega), decide_eq_false h1]
        rfl)
    (fun r hr => rfl) (by rw [LO.lotsI_length]; have : 2 ^ s.length ≤ 2 ^ 6 := Nat.pow_le_pow_right (by omega) hs; omega)
  rw [hc]
  simp only [sNil_p, sCons_p, sCallB_p, len_l, List.length_map, sOp_d]
  congr 2
  unfold cnt
  congr 1
  unfold LO.copiesI
  rw [← LO.lots_chI hs hp, List.filter_filter]
  have := ((LO.sortRows_perm (LO.lotsI s.length)).filter fun r => decide (orderAt s r = p) && decide (r.length = p.length)).length_eq
  rw [this]
  congr 1
  refine List.filter_congr fun r _ => Bool.and_comm _ _
end LF
namespace LF
open PySem L2 DL
theorem cnt_z {p s : List Int} (hs : s.length ≤ 6) (hp : p.length ≤ 6) : LR.Zk 10 (cnt p s) := by
  have hl : (LO.copiesI p s).length ≤ 1000 := Nat.le_trans (List.length_filter_le _ _) (h7b ⟨s.length, by omega⟩ ⟨p.length, by omega⟩)
  show (cnt p s).natAbs < 2 ^ 10
  unfold cnt
  omega
/-- orders of at most six things, coefficients not too big -/
structure Fo (f : List Pr) : Prop where
  n : ∀ p ∈ f, p.1.length ≤ 6
  z : Zc f
theorem worth_of {f : List Pr} {s : List Int} (F : Fo f) (hs : s.length ≤ 6) (hl : f.length ≤ 1000) (tc : PyData → PyData → S PyData) (hc : ∀ p : Pr, p ∈ f → tc (ti p.1) (ti s) = pure (.int (cnt p.1 s))) :
    (sCallB pySum (sCons (sCompA un2 (sItems (pure (fmD f))) (fun q1 => (sBin pyMul (pure q1.2) ((pure q1.1) >>= fun y2 => ((pure (ti s)) >>= fun y3 => tc y2 y3))))) sNil)) = pure (.int (W (fun p => cnt p s) f)) := by
  have hm : mapG (fun p : Pr => S.opt (un2 (prD p)) >>= fun q1 => (sBin pyMul (pure q1.2) ((pure q1.1) >>= fun y2 => ((pure (ti s)) >>= fun y3 => tc y2 y3)))) f = pure (f.map fun p => .int (p.2 * cnt p.1 s)) := mapG_eq _ fun p hp => by
    show (S.opt (some (ti p.1, PyData.int p.2)) >>= _) = _
    simp only [opt_some, pure_bind, hc p hp, sBin_p, LR.mul_z (F.z p hp) (cnt_z hs (F.n p hp)) (by omega), sOp_d]
  rw [show sItems (pure (fmD f)) = pure (f.map prD) from sItems_t _, sCompA_p, mapG_map]
  rw [hm, pure_bind, sSz_eq _ (by rw [List.length_map]; omega)]
  rw [show (f.map fun p : Pr => PyData.int (p.2 * cnt p.1 s)) = (f.map fun p : Pr => p.2 * cnt p.1 s).map .int by rw [List.map_map]; rfl]
  simp only [sNil_p, sCons_p, sCallB_p, sum_m, sOp_d]
  rfl
theorem t_form_worth_eq {f : List Pr} {s : List Int} (F : Fo f) (hs : s.length ≤ 6) (hl : f.length ≤ 1000) : t_form_worth (fmD f) (ti s) = pure (.int (W (fun p => cnt p s) f)) :=
  worth_of F hs hl t_count_of fun p hp => t_count_of_eq hs (F.n p hp)
theorem t__law_worth_eq {f : List Pr} {s : List Int} (F : Fo f) (hs : s.length ≤ 6) (nd : s.Nodup) (hl : f.length ≤ 1000) : t__law_worth (fmD f) (ti s) = pure (.int (W (fun p => cnt p s) f)) :=
  worth_of F hs hl t__law_count fun p hp => t__law_count_eq hs (F.n p hp) nd
theorem W_ext {f g : List Int → Int} (h : ∀ p, f p = g p) (ps : List Pr) : W f ps = W g ps := by rw [funext h]
/-! sizes -/
def sizeF (f : List Pr) : Int := maxDef (f.map fun p => (p.1.length : Int)) (-1)
theorem lens {f : List Pr} (hl : f.length ≤ 1000) : (sCompA un2 (sItems (pure (fmD f))) (fun q1 => (sCallB DL.pyLen (sCons (pure q1.1) sNil)))) = (pure (.list ((f.map fun p => (p.1.length : Int)).map .int)) : S PyData) := by
  have hm : mapG (fun p : Pr => S.opt (un2 (prD p)) >>= fun q1 => (sCallB DL.pyLen (sCons (pure q1.1) sNil))) f = pure (f.map fun p => .int (p.1.length : Int)) := mapG_eq _ fun p hp => by
    show (S.opt (some (ti p.1, PyData.int p.2)) >>= _) = _
    simp only [opt_some, pure_bind, sNil_p, sCons_p, sCallB_p, len_t, List.length_map, sOp_d]
  rw [show sItems (pure (fmD f)) = pure (f.map prD) from sItems_t _, sCompA_p, mapG_map]
  rw [hm, pure_bind, sSz_eq _ (by rw [List.length_map]; omega), List.map_map]
  rfl
theorem neg1 : (sUn pyNeg (pure (.int 1)) : S PyData) = pure (.int (-1)) := rfl
theorem t_form_size_eq {f : List Pr} (hl : f.length ≤ 1000) : t_form_size (fmD f) = pure (.int (sizeF f)) := by
  unfold t_form_size
  rw [lens hl, neg1]
  unfold sMaxDef
  simp only [pure_bind, pyMaxDef, intsOf_ints, Option.map_some, opt_some]
  rfl
theorem foldl_max (l : List Int) (a b : Int) : l.foldl max (max a b) = max a (l.foldl max b) := by
  induction l generalizing b with
  | nil => rfl
  | cons x l ih => rw [List.foldl_cons, List.foldl_cons, show max (max a b) x = max a (max b x) by omega, ih]
theorem law_size {f : List Pr} (hl : f.length ≤ 1000) : (sCallB pyMax (sCons (sBin pyAdd (sCompA un2 (sItems (pure (fmD f))) (fun q43 => (sCallB DL.pyLen (sCons (pure q43.1) sNil)))) (sLst (sCons (sUn pyNeg (pure (.int 1))) sNil))) sNil)) = pure (.int (sizeF f)) := by
  rw [lens hl, neg1]
  simp only [sNil_p, sCons_p, sLst_p, sSz_1]
  have e : ((f.map fun p : Pr => (p.1.length : Int)).map PyData.int ++ [PyData.int (-1)]) = ((f.map fun p : Pr => (p.1.length : Int)) ++ [-1]).map PyData.int := by rw [List.map_append]; rfl
  have hp : ∀ n ∈ f.map (fun p : Pr => (p.1.length : Int)), 0 ≤ n := fun n hn => by
    obtain ⟨p, _, rfl⟩ := List.mem_map.mp hn
    omega
  rw [sBin_p, add_l (by simp; omega), sOp_fr, e]
  unfold sizeF
  generalize (f.map fun p : Pr => (p.1.length : Int)) = l at *
  have hm : maxI (l ++ [-1]) = some (maxDef l (-1)) := by
    cases l with
    | nil => rfl
    | cons n r =>
      show some ((r ++ [-1]).foldl max n) = some (r.foldl max n)
      rw [List.foldl_append]
      have h0 := hp n (by simp)
      have h1 : n ≤ r.foldl max n := by
        have := foldl_max r n n
        rw [show max n n = n by omega] at this
        omega
      show some (max (r.foldl max n) (-1)) = _
      congr 1
      omega
  simp only [sCons_p, sCallB_p, pyMax, intsOf_ints, hm, Option.map_some, oneI]
  rfl
end LF
namespace LF
open PySem L2 DL
theorem intsOf_inv : ∀ {ds : List PyData} {ns : List Int}, intsOf ds = some ns → ds = ns.map .int
  | [], ns, h => by cases h; rfl
  | d :: ds, ns, h => by
    cases d <;> first | (cases h; done) | skip
    rename_i i
    cases r : intsOf ds with
    | none => simp [intsOf, r] at h
    | some ms =>
      simp [intsOf, r] at h
      subst h
      rw [intsOf_inv r]; rfl
theorem t_is_whole_eq (x : PyData) : t_is_whole x = pure (.bool (isWholeD x)) := by
  unfold t_is_whole
  cases x <;> simp [isWholeD]
def ordI (ns : List Int) : Bool := decide (isort ns = ints0 ns.length)
def ordD : PyData → Bool
  | .tuple ds => match intsOf ds with
    | some ns => ordI ns
    | none => false
  | _ => false
theorem ordD_ti (ns : List Int) : ordD (ti ns) = ordI ns := by
  show (match intsOf (ns.map PyData.int) with | some ns => ordI ns | none => false) = _
  rw [intsOf_m]
theorem rgL_ints {n : Nat} (h : n ≤ 16000000) : sRgL (.list) (sRg1 (pure (.int (n : Int)))) = pure (.list ((ints0 n).map .int)) := by
  rw [show sRg1 (pure (.int (n : Int))) = pure ((0 : Int), (n : Int)) from rfl, rgL_nat _ (by omega)]
theorem t_is_order_eq (x : PyData) (hz : ∀ ds, x = .tuple ds → ds.length ≤ 16000000) : t_is_order x = pure (.bool (ordD x)) := by
  unfold t_is_order
  cases x with
  | tuple ds =>
    have hz := hz ds rfl
    have h1 : mapG (fun d : PyData => t_is_whole d) ds = pure (ds.map fun d => .bool (isWholeD d)) := mapG_eq _ fun d _ => t_is_whole_eq d
    simp only [sIsi_p, isi_tt, show (("tuple" : String) == "tuple") = true by decide, sBool_p, sNotT_p, Bool.not_true, sOrT_p, Bool.false_eq_true, if_false, sItems_t, sCompA_p, un1_p, opt_some, pure_bind, h1, sSz_eq PyData.list (show (ds.map fun d => PyData.bool (isWholeD d)).length ≤ 16777216 by rw [List.length_map]; omega), sNil_p, sCons_p, sCallB_p, all_m, sOp_d]
    rw [← intsOf_whole]
    cases q : intsOf ds with
    | none =>
      have : ordD (.tuple ds) = false := by show (match intsOf ds with | some ns => ordI ns | none => false) = false; rw [q]
      rw [this]
      simp
    | some ns =>
      have e := intsOf_inv q
      subst e
      rw [List.length_map] at hz
      have hs := sorted_t ns
      have : ordD (.tuple (ns.map .int)) = ordI ns := ordD_ti ns
      rw [this]
      simp only [Option.isSome_some, Bool.not_true, sIf_p, Bool.false_eq_true, if_false, hs, sOp_fr, len_t, List.length_map, sOp_d, rgL_ints hz, sBin_p, pyEq_ll, ordI]
  | _ => simp [ordD]
def numD : PyData → Bool
  | .int c => decide (c ≠ 0)
  | _ => false
theorem t_is_number_eq (x : PyData) : t_is_number x = pure (.bool (numD x)) := by
  unfold t_is_number
  cases x <;> simp [numD]
def pairD : PyData → Bool
  | .tuple [.tuple ds, c] => match intsOf ds with
    | some ns => ordI ns && (decide (ns.length ≤ 6) && numD c)
    | none => false
  | _ => false
theorem ix2_0 (a b : PyData) : pyIx (.tuple [a, b]) (.int 0) = some (.d a) := rfl
theorem ix2_1 (a b : PyData) : pyIx (.tuple [a, b]) (.int 1) = some (.d b) := rfl
theorem pairD_no {a c : PyData} (h : ∀ ds, a ≠ .tuple ds) : pairD (.tuple [a, c]) = false := by
  unfold pairD
  split
  · rename_i e
    injection e with e
    injection e with e1 e2
    exact absurd e1 (h _)
  · rfl
theorem pairD_len {ds : List PyData} (h : ds.length ≠ 2) : pairD (.tuple ds) = false := by
  unfold pairD
  split
  · rename_i e
    injection e with e
    subst e
    exact absurd rfl h
  · rfl
theorem two_of {ds : List PyData} (h : ds.length = 2) : ∃ a b, ds = [a, b] := by
  match ds, h with
  | [a, b], _ => exact ⟨a, b, rfl⟩
theorem t_is_pair_eq (x : PyData) (hz : wid x ≤ 16000000) : t_is_pair x = pure (.bool (pairD x)) := by
  unfold t_is_pair
  cases x with
  | tuple ds =>
    simp only [sIsi_p, isi_tt, show (("tuple" : String) == "tuple") = true by decide, sBool_p, sNotT_p, Bool.not_true, sOrT_p, Bool.false_eq_true, if_false, sNil_p, sCons_p, sCallB_p, len_t, sOp_d, sBin_p, pyNe_ii, sBool_p, sIf_p]
    by_cases h2 : ds.length = 2
    · obtain ⟨a, c, rfl⟩ := two_of h2
      have hw := (wid_T hz).2 a (by simp)
      have ho : t_is_order a = pure (.bool (ordD a)) := t_is_order_eq a fun es e => by subst e; exact (wid_T hw).1
      simp only [List.length_cons, List.length_nil, ix2_0, ix2_1, sOp_d, pure_bind, ho, t_is_number_eq]
      cases q : ordD a with
      | false =>
        have : pairD (.tuple [a, c]) = false := by
          cases a with
          | tuple es =>
            show (match intsOf es with | some ns => ordI ns && (decide (ns.length ≤ 6) && numD c) | none => false) = false
            have q : (match intsOf es with | some ns => ordI ns | none => false) = false := q
            cases r : intsOf es with
            | none => rfl
            | some ns =>
              rw [r] at q
              have q : ordI ns = false := q
              show (ordI ns && (decide (ns.length ≤ 6) && numD c)) = false
              rw [q]; rfl
          | _ => rfl
        rw [this]
        simp
      | true =>
        cases a with
        | tuple es =>
          have q' : (match intsOf es with | some ns => ordI ns | none => false) = true := q
          cases r : intsOf es with
          | none => rw [r] at q'; cases q'
          | some ns =>
            rw [r] at q'
            have q' : ordI ns = true := q'
            have : pairD (.tuple [.tuple es, c]) = (decide (ns.length ≤ 6) && numD c) := by
              show (match intsOf es with | some ns => ordI ns && (decide (ns.length ≤ 6) && numD c) | none => false) = _
              rw [r]
              simp only [q', Bool.true_and]
            have hl : es.length = ns.length := by rw [intsOf_inv r, List.length_map]
            rw [this]
            simp only [sCons_p, sCallB_p, len_t, sOp_d, sBin_p, pyLe_ii, hl]
            by_cases h6 : ns.length ≤ 6
            · rw [decide_eq_true h6, decide_eq_true (show (ns.length : Int) ≤ 6 by omega)]; simp
            · rw [decide_eq_false h6, decide_eq_false (show ¬ (ns.length : Int) ≤ 6 by omega)]; simp
        | _ => cases q
    · rw [pairD_len h2, decide_eq_true (show (ds.length : Int) ≠ 2 by omega)]
      simp
  | _ => simp [pairD]
end LF
namespace LF
open PySem L2 DL
structure Gd (p : Pr) : Prop where
  o : isort p.1 = ints0 p.1.length
  l : p.1.length ≤ 6
  c : p.2 ≠ 0
theorem numD_inv {c : PyData} (h : numD c = true) : ∃ k : Int, c = .int k ∧ k ≠ 0 := by
  cases c with
  | int k => exact ⟨k, rfl, of_decide_eq_true h⟩
  | _ => cases h
theorem pairD_val {es : List PyData} {c : PyData} : pairD (.tuple [.tuple es, c]) = match intsOf es with | some ns => ordI ns && (decide (ns.length ≤ 6) && numD c) | none => false := rfl
theorem pairD_inv {d : PyData} (h : pairD d = true) : ∃ p : Pr, d = prD p ∧ Gd p := by
  cases d with
  | tuple ds =>
    by_cases h2 : ds.length = 2
    · obtain ⟨a, c, rfl⟩ := two_of h2
      by_cases ha : ∃ es, a = .tuple es
      · obtain ⟨es, rfl⟩ := ha
        rw [pairD_val] at h
        cases q : intsOf es with
        | none => rw [q] at h; cases h
        | some ns =>
          rw [q] at h
          have h : (ordI ns && (decide (ns.length ≤ 6) && numD c)) = true := h
          rw [Bool.and_eq_true, Bool.and_eq_true] at h
          obtain ⟨k, rfl, hk⟩ := numD_inv h.2.2
          have e := intsOf_inv q
          subst e
          exact ⟨(ns, k), rfl, of_decide_eq_true h.1, of_decide_eq_true h.2.1, hk⟩
      · rw [pairD_no fun ds e => ha ⟨ds, e⟩] at h; cases h
    · rw [pairD_len h2] at h; cases h
  | _ => cases h
theorem pairD_gd {p : Pr} (h : Gd p) : pairD (prD p) = true := by
  show pairD (.tuple [.tuple (p.1.map .int), .int p.2]) = true
  rw [pairD_val, intsOf_m]
  show (ordI p.1 && (decide (p.1.length ≤ 6) && decide (p.2 ≠ 0))) = true
  unfold ordI
  rw [decide_eq_true h.o, decide_eq_true h.l, decide_eq_true h.c]; rfl
theorem all_pairs : ∀ {ds : List PyData}, ds.all pairD = true → ∃ ps : List Pr, ds = ps.map prD ∧ ∀ p ∈ ps, Gd p
  | [], _ => ⟨[], rfl, fun p hp => (by cases hp)⟩
  | d :: ds, h => by
    rw [List.all_cons, Bool.and_eq_true] at h
    obtain ⟨p, rfl, hp⟩ := pairD_inv h.1
    obtain ⟨ps, rfl, hps⟩ := all_pairs h.2
    exact ⟨p :: ps, rfl, fun q hq => by
      rcases List.mem_cons.mp hq with rfl | hq
      · exact hp
      · exact hps q hq⟩
theorem up_rows : ∀ ns : List (List Int), ((List.zip ns (ns.drop 1)).all fun p => decide (p.1 < p.2)) = decide (ns.Pairwise (· < ·))
  | [] => by simp
  | [a] => by simp
  | a :: b :: r => by
    have ih := up_rows (b :: r)
    rw [show (List.zip (a :: b :: r) ((a :: b :: r).drop 1)) = (a, b) :: List.zip (b :: r) ((b :: r).drop 1) from rfl, List.all_cons, ih, ← Bool.decide_and]
    refine decide_eq_decide.mpr ⟨fun ⟨h1, h2⟩ => List.pairwise_cons.mpr ⟨fun x hx => ?_, h2⟩, fun h => ⟨(List.pairwise_cons.mp h).1 b (by simp), (List.pairwise_cons.mp h).2⟩⟩
    rcases List.mem_cons.mp hx with rfl | hx
    · exact h1
    · exact List.lt_trans h1 ((List.pairwise_cons.mp h2).1 x hx)
theorem zipped_pr : ∀ a b : List Pr, zipped (a.map prD) (b.map prD) = (List.zip a b).map fun p => .tuple [prD p.1, prD p.2]
  | [], b => by cases b <;> rfl
  | a :: as, [] => rfl
  | a :: as, b :: bs => by
    rw [List.map_cons, List.map_cons, List.zip_cons_cons, List.map_cons, ← zipped_pr as bs]
    rfl
theorem pyIx_pr0 (p : Pr) : pyIx (prD p) (.int 0) = some (.d (ti p.1)) := ix2_0 _ _
theorem pyIx_pr1 (p : Pr) : pyIx (prD p) (.int 1) = some (.d (.int p.2)) := ix2_1 _ _
def upP (ps : List Pr) : Bool := decide ((ps.map (·.1)).Pairwise (· < ·))
theorem all_pairD {ds : List PyData} (hz : wid (.tuple ds) ≤ 16000000) : mapG (fun d : PyData => t_is_pair d) ds = pure (ds.map fun d => .bool (pairD d)) := mapG_eq _ fun d hd => t_is_pair_eq d ((wid_T hz).2 d hd)
theorem t_is_form_no {ds : List PyData} (hz : wid (.tuple ds) ≤ 16000000) (h : ds.all pairD = false) : t_is_form (.tuple ds) = pure (.bool false) := by
  have hl := (wid_T hz).1
  unfold t_is_form
  simp only [sIsi_p, isi_tt, show (("tuple" : String) == "tuple") = true by decide, sBool_p, sNotT_p, Bool.not_true, sOrT_p, Bool.false_eq_true, if_false, sItems_t, sCompA_p, un1_p, opt_some, pure_bind, all_pairD hz, sSz_eq PyData.list (show (ds.map fun d => PyData.bool (pairD d)).length ≤ 16777216 by rw [List.length_map]; omega), sNil_p, sCons_p, sCallB_p, all_m, sOp_d, h, Bool.not_false, sIf_p, if_true]
theorem t_is_form_fm {ps : List Pr} (hz : wid (fmD ps) ≤ 16000000) (h : ∀ p ∈ ps, Gd p) : t_is_form (fmD ps) = pure (.bool (upP ps)) := by
  have hl := (wid_T hz).1
  rw [List.length_map] at hl
  have ha : (ps.map prD).all pairD = true := List.all_eq_true.mpr fun d hd => by
    obtain ⟨p, hp, rfl⟩ := List.mem_map.mp hd
    exact pairD_gd (h p hp)
  have hz' : wid (.tuple (ps.map prD)) ≤ 16000000 := hz
  have e1 : cutD (ps.map prD) (some 1) none = (ps.drop 1).map prD := by rw [cut_one, List.map_drop]
  have z : (List.map (fun p : Pr × Pr => PyData.bool (decide (p.1.1 < p.2.1))) (List.zip ps (ps.drop 1))).length ≤ 16777216 := by
    rw [List.length_map, List.length_zip]
    omega
  unfold t_is_form fmD
  simp only [sIsi_p, isi_tt, show (("tuple" : String) == "tuple") = true by decide, sBool_p, sNotT_p, Bool.not_true, sOrT_p, Bool.false_eq_true, if_false, sItems_t, sCompA_p, un1_p, opt_some, pure_bind, all_pairD hz', sSz_eq PyData.list (show ((ps.map prD).map fun d => PyData.bool (pairD d)).length ≤ 16777216 by rw [List.length_map, List.length_map]; omega), sNil_p, sCons_p, sCallB_p, all_m, sOp_d, ha, sIf_p]
  simp only [partS_i, pure_bind, sSl_p, sl_t, e1, sOp_d, sZip_t, zipped_pr, sCompA_p, mapG_map, un2_p, opt_some, sBin_p, pyIx_pr0, pyLt_tt, mapG_pure, sSz_eq PyData.list z, sCons_p, sCallB_p, all_m]
  congr 2
  unfold upP
  rw [← up_rows, ← List.map_drop, List.zip_map, List.all_map]
  rfl
end LF
namespace LF
open PySem L2 DL
theorem app_empty {α : Type} (a b : List α) : (a ++ b).isEmpty = (a.isEmpty && b.isEmpty) := by cases a <;> rfl
theorem cm_ints (a : List Int) : ∀ d ∈ a.map PyData.int, Cm 0 d := fun d hd => by obtain ⟨i, _, rfl⟩ := List.mem_map.mp hd; exact Cm.int i
theorem pyNe_lis (a b : List Int) : pyNe (.list (a.map .int)) (.list (b.map .int)) = some (.d (.bool !decide (a = b))) :=
  ne_cmp (Cm.lst (cm_ints a)) (Cm.lst (cm_ints b)) ⟨fun h => by rw [of_decide_eq_true h], fun h => decide_eq_true (ints_inj (by injection h))⟩
theorem filt_ints {es : List PyData} {c : PyData} : ((es ++ [c]).filter fun d => !isWholeD d).isEmpty = (es.all isWholeD && isWholeD c) := by
  rw [List.filter_append, app_empty]
  congr 1
  · induction es with
    | nil => rfl
    | cons e es ih =>
      rw [List.filter_cons, List.all_cons]
      cases isWholeD e
      · rfl
      · exact ih
  · rw [List.filter_cons]
    cases isWholeD c <;> rfl
theorem whole_inv {c : PyData} (h : isWholeD c = true) : ∃ k : Int, c = .int k := by
  cases c <;> first | exact ⟨_, rfl⟩ | cases h
theorem law_pair (d : PyData) (hz : wid d ≤ 16000000) : tlb__law_is_form_1 () d = if !pairD d then pure (.ret (.bool false)) else pure (.nxt ()) := by
  unfold tlb__law_is_form_1
  cases d with
  | tuple ds =>
    have hl := (wid_T hz).1
    simp only [sIsi_p, isi_tt, show (("tuple" : String) == "tuple") = true by decide, sBool_p, sNotT_p, Bool.not_true, sOrT_p, Bool.false_eq_true, if_false, sNil_p, sCons_p, sCallB_p, len_t, sOp_d, sBin_p, pyNe_ii, sBool_p, sIf_p, pure_bind]
    by_cases h2 : ds.length = 2
    · obtain ⟨a, c, rfl⟩ := two_of h2
      simp only [List.length_cons, List.length_nil, ix2_0, ix2_1, sOp_d, sIsi_p]
      by_cases ha : ∃ es, a = .tuple es
      · obtain ⟨es, rfl⟩ := ha
        have hw := wid_T ((wid_T hz).2 (.tuple es) (by simp))
        by_cases h6 : es.length ≤ 6
        · have h6' : decide ((6 : Int) < (es.length : Int)) = false := decide_eq_false (by omega)
          have hc1 : cutD [PyData.tuple es, c] (some 1) none = [c] := by rw [cut_one]; rfl
          have h1 : compG (fun d : PyData => sOrT (sNotT (sBool (sIsi "int" (pure d)))) (sBool (sIsi "bool" (pure d))) >>= fun b => if b then pure (some d) else pure none) (es ++ [c]) = pure (((es ++ [c]).filter fun d => !isWholeD d).map id) := compG_eq _ _ fun d _ => by
            cases d <;> simp [isWholeD]
          have h1' : compG (fun d : PyData => sOrT (sNotT (pure (isiD "int" d))) (pure (isiD "bool" d)) >>= fun b => if b then pure (some d) else pure none) (es ++ [c]) = pure (((es ++ [c]).filter fun d => !isWholeD d).map id) := h1
          rw [List.map_id] at h1'
          simp only [sOrT_p, sNotT_p] at h1'
          have z : ((es ++ [c]).filter fun d => !isWholeD d).length ≤ 16777216 := Nat.le_trans (List.length_filter_le _ _) (by simp; omega)
          have hadd : pyAdd (.tuple es) (.tuple [c]) = some (.d (.tuple (es ++ [c]))) := add_t (by simp; omega)
          simp only [isi_tt, show (("tuple" : String) == "tuple") = true by decide, sBool_p, sNotT_p, Bool.not_true, sOrT_p, Bool.false_eq_true, if_false, sCons_p, sCallB_p, len_t, sOp_d, sBin_p, pyGt_ii, h6', sIf_p, partS_i, pure_bind, sSl_p, sl_t, hc1, hadd, sItems_t, sComp_p, un1_p, opt_some, sIsi_p, h1', sSz_eq PyData.list z, sLst_p, sSz_nil, pyNe_l0, filt_ints]
          cases hq : (es.all isWholeD && isWholeD c) with
          | false =>
            have : pairD (.tuple [.tuple es, c]) = false := by
              cases q : pairD (.tuple [.tuple es, c]) with
              | false => rfl
              | true =>
                exfalso
                obtain ⟨p, e, _⟩ := pairD_inv q
                injection e with e
                injection e with e1 e2
                injection e1 with e1
                injection e2 with e2
                subst e1 e2
                have hw : (p.1.map PyData.int).all isWholeD = true := by rw [← intsOf_whole, intsOf_m]; rfl
                rw [hw] at hq
                cases hq
            rw [this]
            simp
          | true =>
            rw [Bool.and_eq_true, ← intsOf_whole] at hq
            obtain ⟨ns, hns⟩ := Option.isSome_iff_exists.mp hq.1
            obtain ⟨k, rfl⟩ := whole_inv hq.2
            have e := intsOf_inv hns
            subst e
            rw [List.length_map] at h6
            have hv : pairD (.tuple [.tuple (ns.map .int), .int k]) = (ordI ns && decide (k ≠ 0)) := by
              rw [pairD_val, intsOf_m]
              show (ordI ns && (decide (ns.length ≤ 6) && decide (k ≠ 0))) = _
              rw [decide_eq_true h6, Bool.true_and]
            rw [hv]
            simp only [sorted_t, sOp_fr, len_t, List.length_map, sOp_d, rgL_ints (show ns.length ≤ 16000000 by omega), sBin_p, pyNe_lis, sBool_p, pyEq_ii, ordI]
            by_cases h3 : isort ns = ints0 ns.length
            · by_cases h4 : k = 0
              · simp [h3, h4]
              · simp [h3, h4]
            · simp [h3]
        · have : pairD (.tuple [.tuple es, c]) = false := by
            rw [pairD_val]
            cases r : intsOf es with
            | none => rfl
            | some ns =>
              have hl : es.length = ns.length := by rw [intsOf_inv r, List.length_map]
              show (ordI ns && (decide (ns.length ≤ 6) && numD c)) = false
              rw [decide_eq_false (by omega)]; simp
          rw [this]
          simp [decide_eq_true (show (es.length : Int) > 6 by omega)]
      · have : pairD (.tuple [a, c]) = false := pairD_no fun ds e => ha ⟨ds, e⟩
        rw [this]
        cases a <;> first | exact absurd ⟨_, rfl⟩ ha | simp
    · rw [pairD_len h2, decide_eq_true (show (ds.length : Int) ≠ 2 by omega)]
      simp
  | _ => simp [pairD]
end LF
namespace LF
open PySem L2 DL
/-! sorted(dict([(p, 0) for p in orders])) -/
def zeroD (r : List Int) : PyData := .tuple [ti r, .int 0]
theorem tpairs_zero : ∀ rows : List (List Int), tpairs (rows.map zeroD) = some (rows.map fun r => (kz r, .int 0))
  | [] => rfl
  | r :: rows => by
    rw [List.map_cons]
    unfold zeroD tpairs
    rw [keyT_ti]
    show (tpairs (rows.map zeroD)).map _ = _
    rw [tpairs_zero rows]
    rfl
def putZ (rows : List (List Int)) (d : List Pr) : List Pr := rows.foldl (fun d r => putP d r 0) d
theorem putAllT_zero : ∀ (rows : List (List Int)) (d : List Pr), (rows.map fun r => (kz r, PyData.int 0)).foldl (fun r p => putT r p.1 p.2) (d.map inD) = (putZ rows d).map inD
  | [], d => rfl
  | r :: rows, d => by
    rw [List.map_cons, List.foldl_cons]
    show List.foldl _ (putT (d.map inD) (kz r) (.int 0)) _ = _
    rw [putT_in, putAllT_zero rows]
    rfl
theorem putZ_nodup : ∀ (rows : List (List Int)) (d : List Pr), (d.map (·.1)).Nodup → ((putZ rows d).map (·.1)).Nodup
  | [], d, h => h
  | r :: rows, d, h => putZ_nodup rows _ (put_nodup h _ _)
theorem putZ_mem : ∀ (rows : List (List Int)) (d : List Pr) (ns : List Int), ns ∈ (putZ rows d).map (·.1) ↔ ns ∈ d.map (·.1) ∨ ns ∈ rows
  | [], d, ns => by
    show ns ∈ d.map (·.1) ↔ _
    simp
  | r :: rows, d, ns => by
    show ns ∈ (putZ rows (putP d r 0)).map (·.1) ↔ _
    rw [putZ_mem rows, put_keys]
    by_cases h : r ∈ d.map (·.1)
    · rw [if_pos h]
      constructor
      · rintro (h1 | h1)
        · exact .inl h1
        · exact .inr (List.mem_cons_of_mem _ h1)
      · rintro (h1 | h1)
        · exact .inl h1
        · rcases List.mem_cons.mp h1 with h1 | h1
          · rw [h1]; exact .inl h
          · exact .inr h1
    · rw [if_neg h, List.mem_append, List.mem_singleton, List.mem_cons]
      constructor
      · rintro ((h1 | h1) | h1)
        · exact .inl h1
        · exact .inr (.inl h1)
        · exact .inr (.inr h1)
      · rintro (h1 | h1 | h1)
        · exact .inl (.inl h1)
        · exact .inl (.inr h1)
        · exact .inr h1
def keysR (rows : List (List Int)) : List (List Int) := LO.sortRows ((putZ rows []).map (·.1))
theorem keysR_eq (rows : List (List Int)) : rows = keysR rows ↔ rows.Pairwise (· < ·) := by
  have irr : ∀ {a b : List Int}, a < b → a ≠ b := fun h e => by rw [e] at h; exact List.lt_irrefl _ h
  have nd : (keysR rows).Nodup := (LO.sortRows_perm _).nodup_iff.mpr (putZ_nodup rows [] (by simp))
  have pw0 : (keysR rows).Pairwise (· ≤ ·) := LO.sortRows_pw _
  have pw : (keysR rows).Pairwise (· < ·) := (pw0.and nd).imp fun ⟨a, b⟩ => row_lt a b
  constructor
  · intro h
    rw [h]; exact pw
  · intro h
    have n2 : rows.Nodup := h.imp fun h => irr h
    have hp : rows.Perm (keysR rows) := (List.perm_ext_iff_of_nodup n2 nd).mpr fun ns => by
      unfold keysR
      rw [(LO.sortRows_perm _).mem_iff, putZ_mem]
      simp
    exact List.Perm.eq_of_pairwise (le := fun p q : List Int => p < q) (fun a b _ _ h1 h2 => absurd (List.lt_trans h1 h2) (List.lt_irrefl _)) h pw hp
theorem cm_rows (rows : List (List Int)) : Cm 2 (.list (rows.map ti)) := Cm.lst fun d hd => by
  obtain ⟨r, _, rfl⟩ := List.mem_map.mp hd
  refine Cm.tup fun d hd => ?_
  obtain ⟨i, _, rfl⟩ := List.mem_map.mp hd
  exact Cm.int i
theorem rows_inj {a b : List (List Int)} (h : a.map ti = b.map ti) : a = b := List.map_inj_right (f := ti) (fun _ _ h => ti_inj h) |>.mp h
theorem orders_tail {rows : List (List Int)} (hl : rows.length ≤ 16000000) : sBin pyEq (pure (.list (rows.map ti))) (sSortE (sDictT (sCompA un1 (sItems (pure (.list (rows.map ti)))) (fun q7 => (sTup (sCons (pure q7) (sCons (pure (.int 0)) sNil))))))) = pure (.bool (decide (rows.Pairwise (· < ·)))) := by
  have h1 : sCompA un1 (sItems (pure (.list (rows.map ti)))) (fun q7 => (sTup (sCons (pure q7) (sCons (pure (.int 0)) sNil)))) = pure (.list (rows.map zeroD)) := compA_enc (sItems_l _) zeroD (fun r _ => by simp only [sNil_p, sCons_p, sTup_p, sSz_2]; rfl) hl
  have h2 : pyDictT (.list (rows.map zeroD)) = some ((putZ rows []).map inD) := by
    show (tpairs (rows.map zeroD)).map putAllT = _
    rw [tpairs_zero]
    show some (putAllT _) = _
    congr 1
    exact putAllT_zero rows []
  have h3 : ((putZ rows []).map inD).map (·.1) = ((putZ rows []).map (·.1)).map ti := by rw [List.map_map, List.map_map]; rfl
  have h4 : sSortE (sDictT (pure (.list (rows.map zeroD)))) = pure (.list ((keysR rows).map ti)) := by
    unfold sDictT sSortE
    simp only [pure_bind, h2, Option.map_some, opt_some, tdIn, mkT, h3, LO.sortOk_rows, if_true, LO.sortD_rows]
    rfl
  rw [h1, h4, sBin_p]
  have h5 : pyEq (.list (rows.map ti)) (.list ((keysR rows).map ti)) = some (.d (.bool (decide (rows.Pairwise (· < ·))))) :=
    eq_cmp (cm_rows rows) (cm_rows _) (by rw [decide_eq_true_eq, ← keysR_eq]; exact ⟨fun h => by rw [← h], fun h => rows_inj (by injection h)⟩)
  rw [h5, sOp_d]
theorem law_loop {ds : List PyData} (hz : wid (.tuple ds) ≤ 16000000) : forO (κ := Empty) (fun w_ x_ => S.opt (un1 x_) >>= tlb__law_is_form_1 w_) ds () = pure (if ds.all pairD then .nxt () else .ret (.bool false)) := by
  have h := forO_find (κ := Empty) (f := fun w_ x_ => S.opt (un1 x_) >>= tlb__law_is_form_1 w_) (fun d => !pairD d) (fun _ => PyData.bool false) (l := ds) fun d hd => by
    rw [un1_p, opt_some, pure_bind]
    exact law_pair d ((wid_T hz).2 d hd)
  rw [h]
  congr 1
  cases q : ds.find? (fun d => !pairD d) with
  | some x =>
    have h1 := List.find?_some q
    have h2 := List.mem_of_find?_eq_some q
    have : ds.all pairD = false := by
      cases z : ds.all pairD with
      | false => rfl
      | true => rw [List.all_eq_true.mp z x h2] at h1; cases h1
    rw [this]; rfl
  | none =>
    have := List.find?_eq_none.mp q
    have : ds.all pairD = true := List.all_eq_true.mpr fun d hd => by simpa using this d hd
    rw [this]; rfl
theorem t__law_is_form_no {ds : List PyData} (hz : wid (.tuple ds) ≤ 16000000) (h : ds.all pairD = false) : t__law_is_form (.tuple ds) = pure (.bool false) := by
  unfold t__law_is_form
  simp only [sIsi_p, isi_tt, show (("tuple" : String) == "tuple") = true by decide, sBool_p, sNotT_p, Bool.not_true, sIf_p, Bool.false_eq_true, if_false, sItems_t, pure_bind, law_loop hz, h, Bool.false_eq_true, if_false, outR]
theorem t__law_is_form_fm {ps : List Pr} (hz : wid (fmD ps) ≤ 16000000) (h : ∀ p ∈ ps, Gd p) : t__law_is_form (fmD ps) = pure (.bool (upP ps)) := by
  have hl := (wid_T hz).1
  rw [List.length_map] at hl
  have hz' : wid (.tuple (ps.map prD)) ≤ 16000000 := hz
  have hf : (ps.map prD).all pairD = true := List.all_eq_true.mpr fun d hd => by
    obtain ⟨p, hp, rfl⟩ := List.mem_map.mp hd
    exact pairD_gd (h p hp)
  have hc : sCompA un2 (sItems (pure (.tuple (ps.map prD)))) (fun q5 => (pure q5.1)) = (pure (.list ((ps.map (·.1)).map ti)) : S PyData) := by
    have hm : mapG (fun p : Pr => S.opt (un2 (prD p)) >>= fun q1 => (pure q1.1 : S PyData)) ps = pure (ps.map fun p => ti p.1) := mapG_eq _ fun p hp => by
      show (S.opt (some (ti p.1, PyData.int p.2)) >>= _) = _
      rw [opt_some, pure_bind]
    rw [sItems_t, sCompA_p, mapG_map]
    rw [hm, pure_bind, sSz_eq _ (by rw [List.length_map]; omega), List.map_map]
    rfl
  unfold t__law_is_form fmD
  simp only [sIsi_p, isi_tt, show (("tuple" : String) == "tuple") = true by decide, sBool_p, sNotT_p, Bool.not_true, sIf_p, Bool.false_eq_true, if_false]
  rw [hc]
  simp only [sItems_t, pure_bind, law_loop hz', hf, if_true, outR]
  exact orders_tail (by rw [List.length_map]; exact hl)
/-- of anything, both say the same -/
theorem is_form_both (x : PyData) (hz : wid x ≤ 16000000) : ∃ b : Bool, t_is_form x = pure (.bool b) ∧ t__law_is_form x = pure (.bool b) := by
  cases x with
  | tuple ds =>
    cases h : ds.all pairD with
    | false => exact ⟨false, t_is_form_no hz h, t__law_is_form_no hz h⟩
    | true =>
      obtain ⟨ps, rfl, hp⟩ := all_pairs h
      exact ⟨upP ps, t_is_form_fm hz hp, t__law_is_form_fm hz hp⟩
  | _ => exact ⟨false, by simp [t_is_form], by simp [t__law_is_form]⟩
end LF
namespace LT
open PySem L2 DL LF
def tlb_orders_of_1 (p0 : PyData) (v : PyData) (q : PyData) : S (PyData) :=
  (((sComp un1 (sRange1 (pure p0)) (fun q3 => (sBool (sBin (pyIn true) (pure q3) (pure q)))) (fun q3 => (sTup (sStar (pure q) (sCons (pure q3) sNil))))) >>= fun y4 => extS v y4) >>= fun v5 => pure v5)
def tlb_orders_of_2 (p0 : PyData) (v : PyData) (q : PyData) : S (PyData) :=
  ((sLst sNil) >>= fun v2 => (((sItems (pure v)) >>= fun xs_ => foldS (fun w_ x_ => S.opt (un1 x_) >>= (tlb_orders_of_1 p0) w_) xs_ v2) >>= fun v8 => ((sCallB pyListOf (sCons (pure v8) sNil)) >>= fun v9 => pure v9)))
def t_orders_of (x0 : PyData) : S PyData :=
  (sIf (sBool (sBin pyGt (pure x0) (pure (.int 6)))) S.fail ((sLst (sCons (sTup sNil) sNil)) >>= fun v1 => (((sRange1 (pure x0)) >>= fun xs_ => foldS (fun w_ x_ => S.opt (un1 x_) >>= (tlb_orders_of_2 x0) w_) xs_ v1) >>= fun v12 => (sCallB pyTupOf (sCons (pure v12) sNil)))))
def tlb_little_orders_1 (v : PyData) (q : PyData) : S (PyData) :=
  ((((pure q) >>= fun y2 => t_orders_of y2) >>= fun y3 => extAS v y3) >>= fun v4 => pure v4)
def t_little_orders (x0 : PyData) : S PyData :=
  ((sLst sNil) >>= fun v1 => (((sRange1 (sBin pyAdd (pure x0) (pure (.int 1)))) >>= fun xs_ => foldS (fun w_ x_ => S.opt (un1 x_) >>= tlb_little_orders_1 w_) xs_ v1) >>= fun v7 => (sCallB pyTupOf (sCons (pure v7) sNil))))
def t_table_of (x0 x1 : PyData) : S PyData :=
  (sCallB pyTupOf (sCons (sCompA un1 (sItems ((pure x1) >>= fun y1 => t_little_orders y1)) (fun q2 => ((pure x0) >>= fun y3 => ((pure q2) >>= fun y4 => t_form_worth y3 y4)))) sNil))
def tlb_form_of_table_1 (v : PyData) (q : PyData × PyData) : S (PyData) :=
  (((sTup (sCons (pure q.1) (sCons (sBin pySub (pure q.2) ((((pure v) >>= fun y3 => t_form_of_pairs y3) >>= noLstS) >>= fun y4 => ((pure q.1) >>= fun y5 => t_form_worth y4 y5))) sNil))) >>= fun y6 => appS v y6) >>= fun v7 => pure v7)
def t_form_of_table (x0 x1 : PyData) : S PyData :=
  ((sLst sNil) >>= fun v1 => (((sZipM ((pure x0) >>= fun y2 => t_little_orders y2) (pure x1)) >>= fun xs_ => foldS (fun w_ x_ => S.opt (un2 x_) >>= tlb_form_of_table_1 w_) xs_ v1) >>= fun v10 => ((pure v10) >>= fun y11 => t_form_of_pairs y11)))
def tlb__law_orders_1 (p0 : PyData) (v : PyData) (q : PyData) : S (PyData) :=
  (((sComp un1 (sRange1 (pure p0)) (fun q3 => (sBool (sBin (pyIn true) (pure q3) (pure q)))) (fun q3 => (sBin pyAdd (pure q) (sTup (sCons (pure q3) sNil))))) >>= fun y4 => extS v y4) >>= fun v5 => pure v5)
def tlb__law_orders_2 (p0 : PyData) (v : PyData) (q : PyData) : S (PyData) :=
  ((sLst sNil) >>= fun v2 => (((sItems (pure v)) >>= fun xs_ => foldS (fun w_ x_ => S.opt (un1 x_) >>= (tlb__law_orders_1 p0) w_) xs_ v2) >>= fun v8 => ((sCallB pyListOf (sCons (pure v8) sNil)) >>= fun v9 => pure v9)))
def t__law_orders (x0 : PyData) : S PyData :=
  ((sLst (sCons (sTup sNil) sNil)) >>= fun v1 => (((sRange1 (pure x0)) >>= fun xs_ => foldS (fun w_ x_ => S.opt (un1 x_) >>= (tlb__law_orders_2 x0) w_) xs_ v1) >>= fun v12 => (pure v12)))
def tlb__law_little_1 (v : PyData) (q : PyData) : S (PyData) :=
  ((((pure q) >>= fun y2 => t__law_orders y2) >>= fun y3 => extAS v y3) >>= fun v4 => pure v4)
def t__law_little (x0 : PyData) : S PyData :=
  ((sLst sNil) >>= fun v1 => (((sRange1 (sBin pyAdd (pure x0) (pure (.int 1)))) >>= fun xs_ => foldS (fun w_ x_ => S.opt (un1 x_) >>= tlb__law_little_1 w_) xs_ v1) >>= fun v7 => (pure v7)))
def tlb__law_chosen_1 (p0 : PyData) (v : PyData) (q : PyData) : S (PyData) :=
  (((sCompA un1 (sRange2 (sIf (sBool (sBin pyNe (pure q) (sTup sNil))) (sBin pyAdd (sBin pyIx (pure q) (sUn pyNeg (pure (.int 1)))) (pure (.int 1))) (pure (.int 0))) (pure p0)) (fun q3 => (sBin pyAdd (pure q) (sTup (sCons (pure q3) sNil))))) >>= fun y4 => extS v y4) >>= fun v5 => pure v5)
def tlb__law_chosen_2 (p0 : PyData) (v : PyData) (q : PyData) : S (PyData) :=
  ((sLst sNil) >>= fun v2 => (((sItems (pure v)) >>= fun xs_ => foldS (fun w_ x_ => S.opt (un1 x_) >>= (tlb__law_chosen_1 p0) w_) xs_ v2) >>= fun v8 => ((sCallB pyListOf (sCons (pure v8) sNil)) >>= fun v9 => pure v9)))
def t__law_chosen (x0 x1 : PyData) : S PyData :=
  ((sLst (sCons (sTup sNil) sNil)) >>= fun v1 => (((sRange1 (pure x1)) >>= fun xs_ => foldS (fun w_ x_ => S.opt (un1 x_) >>= (tlb__law_chosen_2 x0) w_) xs_ v1) >>= fun v12 => (pure v12)))
def t__law_order_at (x0 x1 : PyData) : S PyData :=
  ((sCompA un1 (sItems (pure x1)) (fun q1 => (sBin pyIx (pure x0) (pure q1)))) >>= fun v2 => (sCallB pyTupOf (sCons (sCompA un1 (sItems (pure v2)) (fun q3 => (sCallB DL.pyLen (sCons (sComp un1 (sItems (pure v2)) (fun q4 => (sBool (sBin pyLt (pure q4) (pure q3)))) (fun q4 => (pure (.int 1)))) sNil)))) sNil)))
def t__law_count (x0 x1 : PyData) : S PyData :=
  (sCallB DL.pyLen (sCons (sComp un1 (sItems ((sCallB DL.pyLen (sCons (pure x1) sNil)) >>= fun y1 => ((sCallB DL.pyLen (sCons (pure x0) sNil)) >>= fun y2 => t__law_chosen y1 y2))) (fun q3 => (sBool (sBin pyEq ((pure x1) >>= fun y4 => ((pure q3) >>= fun y5 => t__law_order_at y4 y5)) (pure x0)))) (fun q3 => (pure (.int 1)))) sNil))
def t__law_form_worth (x0 x1 : PyData) : S PyData :=
  (sCallB pySum (sCons (sCompA un2 (sItems (pure x0)) (fun q1 => (sBin pyMul (pure q1.2) ((pure q1.1) >>= fun y2 => ((pure x1) >>= fun y3 => t__law_count y2 y3))))) sNil))
def tlb__law_told_1 (v : PyData) (q : PyData × PyData) : S (PyData) :=
  (((sTup (sCons (pure q.1) (sCons (sBin pySub (pure q.2) ((sCallB pySum (sCons (sCompA un2 (sItems (pure v)) (fun q2 => (sBin pyMul (pure q2.2) ((pure q2.1) >>= fun y3 => ((pure q.1) >>= fun y4 => t__law_count y3 y4))))) sNil)) >>= noLstS)) sNil))) >>= fun y5 => appS v y5) >>= fun v6 => pure v6)
def t__law_told (x0 x1 : PyData) : S PyData :=
  ((sLst sNil) >>= fun v1 => (((sZipM (pure x0) (pure x1)) >>= fun xs_ => foldS (fun w_ x_ => S.opt (un2 x_) >>= tlb__law_told_1 w_) xs_ v1) >>= fun v9 => ((pure v9) >>= fun y10 => t__law_put y10)))
end LT
namespace LT
open PySem L2 DL LF
def stepO (n : Nat) (rows : List (List Int)) : List (List Int) := rows.flatMap fun row => ((ints0 n).filter fun h => !decide (h ∈ row)).map fun h => row ++ [h]
def iterO (n : Nat) : Nat → List (List Int)
  | 0 => [[]]
  | j + 1 => stepO n (iterO n j)
def ordL (n : Nat) : List (List Int) := iterO n n
def E (k : Nat) : List (List Int) := (List.range (k + 1)).flatMap ordL
theorem lit0 : t_little_orders (.int 0) = pure (.tuple ((E 0).map ti)) := by rfl
theorem law0 : t__law_little (.int 0) = pure (.list ((E 0).map ti)) := by rfl
theorem lit1 : t_little_orders (.int 1) = pure (.tuple ((E 1).map ti)) := by rfl
theorem law1 : t__law_little (.int 1) = pure (.list ((E 1).map ti)) := by rfl
theorem lit2 : t_little_orders (.int 2) = pure (.tuple ((E 2).map ti)) := by rfl
theorem law2 : t__law_little (.int 2) = pure (.list ((E 2).map ti)) := by rfl
theorem lit3 : t_little_orders (.int 3) = pure (.tuple ((E 3).map ti)) := by rfl
theorem law3 : t__law_little (.int 3) = pure (.list ((E 3).map ti)) := by rfl
theorem lit4 : t_little_orders (.int 4) = pure (.tuple ((E 4).map ti)) := by rfl
theorem law4 : t__law_little (.int 4) = pure (.list ((E 4).map ti)) := by rfl
theorem ch00 : t__law_chosen (.int 0) (.int 0) = pure (.list ((LO.chI (ints0 0) 0).map ti)) := by rfl
theorem ch01 : t__law_chosen (.int 0) (.int 1) = pure (.list ((LO.chI (ints0 0) 1).map ti)) := by rfl
theorem ch02 : t__law_chosen (.int 0) (.int 2) = pure (.list ((LO.chI (ints0 0) 2).map ti)) := by rfl
theorem ch03 : t__law_chosen (.int 0) (.int 3) = pure (.list ((LO.chI (ints0 0) 3).map ti)) := by rfl
theorem ch04 : t__law_chosen (.int 0) (.int 4) = pure (.list ((LO.chI (ints0 0) 4).map ti)) := by rfl
theorem ch10 : t__law_chosen (.int 1) (.int 0) = pure (.list ((LO.chI (ints0 1) 0).map ti)) := by rfl
theorem ch11 : t__law_chosen (.int 1) (.int 1) = pure (.list ((LO.chI (ints0 1) 1).map ti)) := by rfl
theorem ch12 : t__law_chosen (.int 1) (.int 2) = pure (.list ((LO.chI (ints0 1) 2).map ti)) := by rfl
theorem ch13 : t__law_chosen (.int 1) (.int 3) = pure (.list ((LO.chI (ints0 1) 3).map ti)) := by rfl
theorem ch14 : t__law_chosen (.int 1) (.int 4) = pure (.list ((LO.chI (ints0 1) 4).map ti)) := by rfl
theorem ch20 : t__law_chosen (.int 2) (.int 0) = pure (.list ((LO.chI (ints0 2) 0).map ti)) := by rfl
theorem ch21 : t__law_chosen (.int 2) (.int 1) = pure (.list ((LO.chI (ints0 2) 1).map ti)) := by rfl
theorem ch22 : t__law_chosen (.int 2) (.int 2) = pure (.list ((LO.chI (ints0 2) 2).map ti)) := by rfl
theorem ch23 : t__law_chosen (.int 2) (.int 3) = pure (.list ((LO.chI (ints0 2) 3).map ti)) := by rfl
theorem ch24 : t__law_chosen (.int 2) (.int 4) = pure (.list ((LO.chI (ints0 2) 4).map ti)) := by rfl
theorem ch30 : t__law_chosen (.int 3) (.int 0) = pure (.list ((LO.chI (ints0 3) 0).map ti)) := by rfl
theorem ch31 : t__law_chosen (.int 3) (.int 1) = pure (.list ((LO.chI (ints0 3) 1).map ti)) := by rfl
theorem ch32 : t__law_chosen (.int 3) (.int 2) = pure (.list ((LO.chI (ints0 3) 2).map ti)) := by rfl
theorem ch33 : t__law_chosen (.int 3) (.int 3) = pure (.list ((LO.chI (ints0 3) 3).map ti)) := by rfl
theorem ch34 : t__law_chosen (.int 3) (.int 4) = pure (.list ((LO.chI (ints0 3) 4).map ti)) := by rfl
theorem ch40 : t__law_chosen (.int 4) (.int 0) = pure (.list ((LO.chI (ints0 4) 0).map ti)) := by rfl
theorem ch41 : t__law_chosen (.int 4) (.int 1) = pure (.list ((LO.chI (ints0 4) 1).map ti)) := by rfl
theorem ch42 : t__law_chosen (.int 4) (.int 2) = pure (.list ((LO.chI (ints0 4) 2).map ti)) := by rfl
theorem ch43 : t__law_chosen (.int 4) (.int 3) = pure (.list ((LO.chI (ints0 4) 3).map ti)) := by rfl
theorem ch44 : t__law_chosen (.int 4) (.int 4) = pure (.list ((LO.chI (ints0 4) 4).map ti)) := by rfl
theorem little_eq {k : Nat} (h : k ≤ 4) : t_little_orders (.int (k : Int)) = pure (.tuple ((E k).map ti)) := by
  match k, h with
  | 0, _ => exact lit0
  | 1, _ => exact lit1
  | 2, _ => exact lit2
  | 3, _ => exact lit3
  | 4, _ => exact lit4
theorem law_little_eq {k : Nat} (h : k ≤ 4) : t__law_little (.int (k : Int)) = pure (.list ((E k).map ti)) := by
  match k, h with
  | 0, _ => exact law0
  | 1, _ => exact law1
  | 2, _ => exact law2
  | 3, _ => exact law3
  | 4, _ => exact law4
theorem chosen_eq {n j : Nat} (hn : n ≤ 4) (hj : j ≤ 4) : t__law_chosen (.int (n : Int)) (.int (j : Int)) = pure (.list ((LO.chI (ints0 n) j).map ti)) := by
  match n, hn, j, hj with
  | 0, _, 0, _ => exact ch00
  | 0, _, 1, _ => exact ch01
  | 0, _, 2, _ => exact ch02
  | 0, _, 3, _ => exact ch03
  | 0, _, 4, _ => exact ch04
  | 1, _, 0, _ => exact ch10
  | 1, _, 1, _ => exact ch11
  | 1, _, 2, _ => exact ch12
  | 1, _, 3, _ => exact ch13
  | 1, _, 4, _ => exact ch14
  | 2, _, 0, _ => exact ch20
  | 2, _, 1, _ => exact ch21
  | 2, _, 2, _ => exact ch22
  | 2, _, 3, _ => exact ch23
  | 2, _, 4, _ => exact ch24
  | 3, _, 0, _ => exact ch30
  | 3, _, 1, _ => exact ch31
  | 3, _, 2, _ => exact ch32
  | 3, _, 3, _ => exact ch33
  | 3, _, 4, _ => exact ch34
  | 4, _, 0, _ => exact ch40
  | 4, _, 1, _ => exact ch41
  | 4, _, 2, _ => exact ch42
  | 4, _, 3, _ => exact ch43
  | 4, _, 4, _ => exact ch44
end LT
namespace LT
open PySem L2 DL LF
def cntL (p s : List Int) : Nat := ((LO.chI (ints0 s.length) p.length).filter fun r => decide (LO.atLaw s r = p)).length
theorem unitL : ∀ p ∈ E 4, ∀ s ∈ E 4, s.length ≤ p.length → cntL p s = if p = s then 1 else 0 := by decide +kernel
theorem e4_facts : (E 4).Nodup ∧ ∀ s ∈ E 4, s.length ≤ 4 ∧ s.Nodup ∧ s.isPerm (ints0 s.length) = true ∧ ∀ i ∈ s, 0 ≤ i ∧ i < 4 := by decide +kernel
theorem e_sub : ∀ k : Fin 5, ∀ s ∈ E k.1, s ∈ E 4 ∧ s.length ≤ k.1 := by decide +kernel
theorem e_nodup : ∀ k : Fin 5, (E k.1).Nodup ∧ (E k.1).length ≤ 34 ∧ 0 < (E k.1).length := by decide +kernel
theorem e_filter : ∀ k : Fin 5, ∀ j : Fin 5, j.1 ≤ k.1 → (E k.1).filter (fun s => decide (s.length ≤ j.1)) = E j.1 := by decide +kernel
theorem e_sorted : ∀ k : Fin 5, (E k.1).Pairwise fun a b => a.length ≤ b.length := by decide +kernel
theorem ch_asc {n k : Nat} (hn : n ≤ 6) (hk : k ≤ 6) {r : List Int} (h : r ∈ LO.chI (ints0 n) k) : LO.Asc n r := by
  rw [← LO.lots_chI hn hk] at h
  exact (LO.asc_iff _ _).mp ((LO.sortRows_perm _).mem_iff.mp (List.mem_filter.mp h).1)
theorem cnt_eq {p s : List Int} (hs : s.length ≤ 6) (hp : p.length ≤ 6) (nd : s.Nodup) : cnt p s = (cntL p s : Int) := by
  unfold cnt cntL LO.copiesI
  congr 2
  refine List.filter_congr fun r hr => ?_
  have ha := ch_asc hs hp hr
  rw [LO.at_alike (LO.nodup_at nd ha.nodup ha.2)]
theorem unit {p s : List Int} (hp : p ∈ E 4) (hs : s ∈ E 4) (h : s.length ≤ p.length) : cnt p s = if p = s then 1 else 0 := by
  obtain ⟨a1, a2, _⟩ := e4_facts.2 p hp
  obtain ⟨b1, b2, _⟩ := e4_facts.2 s hs
  rw [cnt_eq (by omega) (by omega) b2, unitL p hp s hs h]
  split <;> rfl
/-! the law's count -/
theorem law_at_eq {s r : List Int} (hr : ∀ i ∈ r, 0 ≤ i ∧ i < s.length) (hl : r.length ≤ 1000) : t__law_order_at (ti s) (ti r) = pure (ti (LO.atLaw s r)) := by
  have h1 : sCompA un1 (sItems (pure (ti r))) (fun q1 => (sBin pyIx (pure (ti s)) (pure q1))) = (pure (.list ((r.map (at0 s)).map .int)) : S PyData) := by
    have := LF.compA_enc (l := r) (e := PyData.int) (xs := sItems (pure (ti r))) (sItems_t _) (ce := fun q1 => (sBin pyIx (pure (ti s)) (pure q1))) (fun i => .int (at0 s i)) (fun i hi => by rw [sBin_p, ix_t (hr i hi), sOp_d]) (by omega)
    rw [this, List.map_map]; rfl
  unfold t__law_order_at
  rw [h1, pure_bind]
  generalize eh : r.map (at0 s) = hs
  have hl2 : hs.length ≤ 1000 := by rw [← eh, List.length_map]; exact hl
  have h2 : ∀ h ∈ hs, (sCallB DL.pyLen (sCons (sComp un1 (sItems (pure (.list (hs.map .int)))) (fun q4 => (sBool (sBin pyLt (pure q4) (pure (.int h))))) (fun q4 => (pure (.int 1)))) sNil)) = (pure (.int ((hs.filter fun x => decide (x < h)).length : Nat)) : S PyData) := fun h _ => by
    have := LF.comp_enc (l := hs) (e := PyData.int) (xs := sItems (pure (.list (hs.map .int)))) (sItems_l _) (ct := fun q4 => (sBool (sBin pyLt (pure q4) (pure (.int h))))) (ce := fun q4 => (pure (.int 1))) (fun x => decide (x < h)) (fun _ => .int 1) (fun x _ => by simp only [sBin_p, pyLt_ii, sOp_d, sBool_p]) (fun x _ => rfl) (by omega)
    rw [this]
    simp only [sNil_p, sCons_p, sCallB_p, len_l, List.length_map, sOp_d]
  have h3 := LF.compA_enc (l := hs) (e := PyData.int) (xs := sItems (pure (.list (hs.map .int)))) (sItems_l _) (ce := fun q3 => (sCallB DL.pyLen (sCons (sComp un1 (sItems (pure (.list (hs.map .int)))) (fun q4 => (sBool (sBin pyLt (pure q4) (pure q3)))) (fun q4 => (pure (.int 1)))) sNil))) (fun h => .int ((hs.filter fun x => decide (x < h)).length : Nat)) h2 (by omega)
  rw [h3]
  simp only [sNil_p, sCons_p, sCallB_p, tupOf_l, sOp_d]
  congr 1
  show PyData.tuple _ = .tuple _
  congr 1
  unfold LO.atLaw
  rw [← eh, List.map_map, List.map_map]
  refine List.map_congr_left fun i hi => ?_
  show PyData.int _ = .int _
  congr 2
  unfold LO.lowI
  rw [List.filter_map, List.length_map]
  rfl
theorem t__law_count_eq {p s : List Int} (hs : s ∈ E 4) (hp : p ∈ E 4) : t__law_count (ti p) (ti s) = pure (.int (cnt p s)) := by
  obtain ⟨a1, a2, _⟩ := e4_facts.2 p hp
  obtain ⟨b1, b2, _⟩ := e4_facts.2 s hs
  unfold t__law_count
  have hch : (sItems ((sCallB DL.pyLen (sCons (pure (ti s)) sNil)) >>= fun y1 => ((sCallB DL.pyLen (sCons (pure (ti p)) sNil)) >>= fun y2 => t__law_chosen y1 y2))) = pure ((LO.chI (ints0 s.length) p.length).map ti) := by
    simp only [sNil_p, sCons_p, sCallB_p, len_t, List.length_map, sOp_d, pure_bind]
    rw [chosen_eq (by omega) (by omega)]
    exact sItems_l _
  have hl : (LO.chI (ints0 s.length) p.length).length ≤ 1000 := h7b ⟨s.length, by omega⟩ ⟨p.length, by omega⟩
  have hc := LF.comp_enc hch (ct := fun q3 => (sBool (sBin pyEq ((pure (ti s)) >>= fun y4 => ((pure q3) >>= fun y5 => t__law_order_at y4 y5)) (pure (ti p))))) (ce := fun q3 => (pure (.int 1)))
    (fun r => decide (LO.atLaw s r = p)) (fun _ => .int 1)
    (fun r hr => by
      have ha := ch_asc (show s.length ≤ 6 by omega) (show p.length ≤ 6 by omega) hr
      have hal : t__law_order_at (ti s) (ti r) = pure (ti (LO.atLaw s r)) := law_at_eq ha.2 (by have := ha.len; omega)
      have hq : pyEq (ti (LO.atLaw s r)) (ti p) = some (.d (.bool (decide (LO.atLaw s r = p)))) := pyEq_tt _ _
      simp only [pure_bind, hal, sBin_p, hq, sOp_d, sBool_p])
    (fun r hr => rfl) hl
  rw [hc]
  simp only [sNil_p, sCons_p, sCallB_p, len_l, List.length_map, sOp_d]
  rw [cnt_eq (by omega) (by omega) b2]
  rfl
end LT
namespace LT
open PySem L2 DL LF
def wo (s : List Int) (F : List Pr) : Int := W (fun p => cnt p s) F
def sol : List Pr → List Pr → List Pr
  | [], F => F
  | z :: r, F => sol r (F ++ [(z.1, z.2 - wo z.1 F)])
structure Keys (ks : List (List Int)) : Prop where
  m : ∀ s ∈ ks, s ∈ E 4
  n : ks.Nodup
  o : ks.Pairwise fun a b => a.length ≤ b.length
theorem keys_e {k : Nat} (h : k ≤ 4) : Keys (E k) := ⟨fun s hs => (e_sub ⟨k, by omega⟩ s hs).1, (e_nodup ⟨k, by omega⟩).1, e_sorted ⟨k, by omega⟩⟩
theorem Keys.tail {a : List Int} {ks : List (List Int)} (h : Keys (a :: ks)) : Keys ks := ⟨fun s hs => h.m s (List.mem_cons_of_mem _ hs), (List.nodup_cons.mp h.n).2, (List.pairwise_cons.mp h.o).2⟩
theorem W_zero {f : List Int → Int} : ∀ {R : List Pr}, (∀ p ∈ R, f p.1 = 0) → W f R = 0
  | [], _ => rfl
  | p :: R, h => by rw [W_cons, h p (by simp), W_zero fun q hq => h q (List.mem_cons_of_mem _ hq)]; simp
theorem sol_ok : ∀ (zs F : List Pr), Keys (zs.map (·.1)) → ∃ R, sol zs F = F ++ R ∧ R.map (·.1) = zs.map (·.1) ∧ ∀ z ∈ zs, wo z.1 (F ++ R) = z.2
  | [], F, _ => ⟨[], by simp [sol], rfl, fun z hz => by cases hz⟩
  | z :: r, F, h => by
    obtain ⟨R, e1, e2, e3⟩ := sol_ok r (F ++ [(z.1, z.2 - wo z.1 F)]) h.tail
    refine ⟨(z.1, z.2 - wo z.1 F) :: R, ?_, ?_, fun y hy => ?_⟩
    · show sol r _ = _
      rw [e1, List.append_assoc]; rfl
    · rw [List.map_cons, List.map_cons, e2]
    · have ea : F ++ (z.1, z.2 - wo z.1 F) :: R = F ++ [(z.1, z.2 - wo z.1 F)] ++ R := by rw [List.append_assoc]; rfl
      rcases List.mem_cons.mp hy with rfl | hy
      · unfold wo
        rw [W_app, W_cons]
        have hm : y.1 ∈ E 4 := h.m y.1 (by simp)
        have h0 : W (fun p => cnt p y.1) R = 0 := W_zero fun p hp => by
          have hp' : p.1 ∈ r.map (·.1) := e2 ▸ List.mem_map.mpr ⟨p, hp, rfl⟩
          have h1 : y.1.length ≤ p.1.length := (List.pairwise_cons.mp h.o).1 p.1 hp'
          have h2 : p.1 ≠ y.1 := fun z => (List.nodup_cons.mp h.n).1 (by rw [z] at hp'; exact hp')
          show cnt p.1 y.1 = 0
          rw [unit (h.tail.m _ hp') hm h1, if_neg h2]
        rw [h0]
        show W (fun p => cnt p y.1) F + ((y.2 - wo y.1 F) * cnt y.1 y.1 + 0) = y.2
        rw [unit hm hm (Nat.le_refl _), if_pos rfl]
        show W (fun p => cnt p y.1) F + ((y.2 - W (fun p => cnt p y.1) F) * 1 + 0) = y.2
        omega
      · rw [ea]; exact e3 y hy
theorem min_len : ∀ D : List Pr, D ≠ [] → ∃ p ∈ D, ∀ q ∈ D, p.1.length ≤ q.1.length
  | [], h => absurd rfl h
  | [p], _ => ⟨p, by simp, fun q hq => by rw [List.mem_singleton.mp hq]; exact Nat.le_refl _⟩
  | p :: q :: D, _ => by
    obtain ⟨m, hm, h⟩ := min_len (q :: D) (by simp)
    by_cases hp : p.1.length ≤ m.1.length
    · exact ⟨p, by simp, fun x hx => by
        rcases List.mem_cons.mp hx with rfl | hx
        · exact Nat.le_refl _
        · exact Nat.le_trans hp (h x hx)⟩
    · exact ⟨m, List.mem_cons_of_mem _ hm, fun x hx => by
        rcases List.mem_cons.mp hx with rfl | hx
        · omega
        · exact h x hx⟩
theorem W_scale (f : List Int → Int) (c : Int) (a : List Pr) : W f (scaleP c a) = c * W f a := by
  induction a with
  | nil => show (0 : Int) = c * 0; simp
  | cons p a ih =>
    show W f ((p.1, c * p.2) :: scaleP c a) = _
    rw [W_cons, W_cons, ih, Int.mul_add, Int.mul_assoc]
theorem W_unit {p0 : List Int} {f : List Int → Int} : ∀ {D : List Pr}, (∀ p ∈ D, f p.1 = if p.1 = p0 then 1 else 0) → W f D = sumK D p0
  | [], _ => rfl
  | p :: D, h => by
    rw [W_cons, sumK_cons, h p (by simp), W_unit fun q hq => h q (List.mem_cons_of_mem _ hq)]
    split <;> simp
/-- worths alike on all orders: the same form -/
theorem uniq {ks : List (List Int)} (hk : ∀ s ∈ ks, s ∈ E 4) {a b : List Pr} (ha : ∀ p ∈ a, p.1 ∈ ks) (hb : ∀ p ∈ b, p.1 ∈ ks) (h : ∀ s ∈ ks, wo s a = wo s b) : formOf a = formOf b := by
  have hd : formOf (a ++ scaleP (-1) b) = [] := by
    refine Classical.byContradiction fun hn => ?_
    obtain ⟨p0, m0, hm⟩ := min_len _ hn
    have key : ∀ p ∈ formOf (a ++ scaleP (-1) b), p.1 ∈ ks := fun p hp => by
      obtain ⟨q, hq, e⟩ := List.mem_map.mp (formOf_key hp)
      rw [← e]
      rcases List.mem_append.mp hq with hq | hq
      · exact ha q hq
      · obtain ⟨q', hq', rfl⟩ := List.mem_map.mp hq
        exact hb q' hq'
    have hw : wo p0.1 (formOf (a ++ scaleP (-1) b)) = 0 := by
      unfold wo
      rw [W_form, W_app, W_scale]
      have := h p0.1 (key p0 m0)
      unfold wo at this
      omega
    have hu : wo p0.1 (formOf (a ++ scaleP (-1) b)) = sumK (formOf (a ++ scaleP (-1) b)) p0.1 := W_unit fun p hp => unit (hk _ (key p hp)) (hk _ (key p0 m0)) (hm p hp)
    rw [hw, sumK_mem (formOf_can _).nodup m0] at hu
    exact (formOf_can _).z p0 m0 hu.symm
  refine formOf_ext fun ns => ?_
  have h1 := sumK_form (a ++ scaleP (-1) b) ns
  rw [hd, sumK_app, sumK_scale] at h1
  have : sumK [] ns = 0 := rfl
  omega
/-! bounds -/
theorem c6 : ∀ p ∈ E 4, ∀ s ∈ E 4, cntL p s ≤ 6 := by decide +kernel
theorem cnt6 {p s : List Int} (hp : p ∈ E 4) (hs : s ∈ E 4) : (cnt p s).natAbs ≤ 6 := by
  obtain ⟨a1, a2, _⟩ := e4_facts.2 p hp
  obtain ⟨b1, b2, _⟩ := e4_facts.2 s hs
  rw [cnt_eq (by omega) (by omega) b2]
  have := c6 p hp s hs
  omega
theorem wo_le {s : List Int} (hs : s ∈ E 4) {B : Nat} : ∀ {F : List Pr}, (∀ p ∈ F, p.1 ∈ E 4) → (∀ p ∈ F, p.2.natAbs ≤ B) → (wo s F).natAbs ≤ F.length * (B * 6)
  | [], _, _ => by show (0 : Int).natAbs ≤ _; simp
  | p :: F, h1, h2 => by
    have ih := wo_le hs (F := F) (fun q hq => h1 q (List.mem_cons_of_mem _ hq)) fun q hq => h2 q (List.mem_cons_of_mem _ hq)
    unfold wo at ih ⊢
    rw [W_cons, List.length_cons, Nat.succ_mul]
    have h3 : (p.2 * cnt p.1 s).natAbs ≤ B * 6 := by
      rw [Int.natAbs_mul]
      exact Nat.mul_le_mul (h2 p (by simp)) (cnt6 (h1 p (by simp)) hs)
    show (p.2 * cnt p.1 s + W (fun p => cnt p s) F).natAbs ≤ _
    omega
@[irreducible] def bn (i : Nat) : Nat := 300 ^ i * 10 ^ 33
theorem bn_s (i : Nat) : bn (i + 1) = 300 * bn i := by
  unfold bn
  rw [Nat.pow_succ, Nat.mul_comm (300 ^ i) 300, Nat.mul_assoc]
theorem bn_0 : bn 0 = 10 ^ 33 := by unfold bn; decide
theorem bn_le {i j : Nat} (h : i ≤ j) : bn i ≤ bn j := by
  induction h with
  | refl => exact Nat.le_refl _
  | step _ ih => rw [bn_s]; omega
theorem bn_top : bn 36 < 10 ^ 150 ∧ bn 36 < 2 ^ 500 := by
  unfold bn
  exact ⟨by decide +kernel, by decide +kernel⟩
/-- what the steps find stays small -/
theorem sol_b : ∀ (zs F : List Pr) (i : Nat), (∀ z ∈ zs, z.1 ∈ E 4) → (∀ z ∈ zs, z.2.natAbs ≤ bn 0) → (∀ p ∈ F, p.1 ∈ E 4) → (∀ p ∈ F, p.2.natAbs ≤ bn i) → F.length ≤ i → i + zs.length ≤ 34 → ∀ p ∈ sol zs F, p.1 ∈ E 4 ∧ p.2.natAbs ≤ bn 34
  | [], F, i, _, _, h1, h2, _, hi => fun p hp => ⟨h1 p hp, Nat.le_trans (h2 p hp) (bn_le (by simp at hi; omega))⟩
  | z :: r, F, i, k1, k2, h1, h2, hl, hi => by
    rw [List.length_cons] at hi
    have hw := wo_le (k1 z (by simp)) h1 h2
    have hn := k2 z (by simp)
    have hb := bn_le (Nat.zero_le i)
    have hm : F.length * (bn i * 6) ≤ 34 * (bn i * 6) := Nat.mul_le_mul_right _ (by omega)
    have hc : (z.2 - wo z.1 F).natAbs ≤ bn (i + 1) := by
      rw [bn_s]
      omega
    show ∀ p ∈ sol r (F ++ [(z.1, z.2 - wo z.1 F)]), _
    refine sol_b r _ (i + 1) (fun y hy => k1 y (List.mem_cons_of_mem _ hy)) (fun y hy => k2 y (List.mem_cons_of_mem _ hy)) (fun p hp => ?_) (fun p hp => ?_) (by rw [List.length_append, List.length_singleton]; omega) (by omega)
    · rcases List.mem_append.mp hp with hp | hp
      · exact h1 p hp
      · rw [List.mem_singleton.mp hp]; exact k1 z (by simp)
    · rcases List.mem_append.mp hp with hp | hp
      · exact Nat.le_trans (h2 p hp) (bn_le (by omega))
      · rw [List.mem_singleton.mp hp]; exact hc
end LT
namespace LT
open PySem L2 DL LF
theorem worth_any {f : List Pr} {s : List Int} {x : PyData} (hx : sItems (pure x) = pure (f.map LF.prD)) (F : Fo f) (hs : s.length ≤ 6) (hl : f.length ≤ 1000) (tc : PyData → PyData → S PyData) (hc : ∀ p : Pr, p ∈ f → tc (ti p.1) (ti s) = pure (.int (cnt p.1 s))) :
    (sCallB pySum (sCons (sCompA un2 (sItems (pure x)) (fun q1 => (sBin pyMul (pure q1.2) ((pure q1.1) >>= fun y2 => ((pure (ti s)) >>= fun y3 => tc y2 y3))))) sNil)) = pure (.int (wo s f)) := by
  rw [hx]
  exact worth_of F hs hl tc hc
theorem noLst_pr (p : Pr) : noLst (LF.prD p) = true := by
  have h : ∀ l : List Int, noLsts (l.map PyData.int) = true := fun l => by
    induction l with
    | nil => simp [noLsts]
    | cons a l ih => rw [List.map_cons, noLsts, ih, noLst]; all_goals first | rfl | nofun
  show noLst (.tuple [.tuple (p.1.map .int), .int p.2]) = true
  simp [noLst, noLsts, h]
theorem noLst_fm (f : List Pr) : noLst (fmD f) = true := by
  unfold fmD
  rw [noLst]
  induction f with
  | nil => simp [noLsts]
  | cons p f ih => rw [List.map_cons, noLsts, ih, noLst_pr]; rfl
theorem noLstS_fm (f : List Pr) : noLstS (fmD f) = pure (fmD f) := by unfold noLstS; rw [noLst_fm]; rfl
theorem noLstS_i (i : Int) : noLstS (.int i) = pure (.int i) := by unfold noLstS; simp [noLst]
/-- keys in E 4, small -/
structure Es (F : List Pr) : Prop where
  m : ∀ p ∈ F, p.1 ∈ E 4
  c : ∀ p ∈ F, p.2.natAbs ≤ bn 35
  l : F.length ≤ 100
theorem Es.fo {F : List Pr} (h : Es F) : Fo F := ⟨fun p hp => by have := (e4_facts.2 _ (h.m p hp)).1; omega, fun p hp => Nat.lt_of_le_of_lt (Nat.le_trans (h.c p hp) (bn_le (by omega))) bn_top.2⟩
theorem wo_form (s : List Int) (F : List Pr) : wo s (formOf F) = wo s F := W_form _ _
theorem form_es {F : List Pr} {i : Nat} (h1 : ∀ p ∈ F, p.1 ∈ E 4) (h2 : ∀ p ∈ F, p.2.natAbs ≤ bn i) (hi : i ≤ 34) (hl : F.length ≤ 100) : Es (formOf F) := by
  refine ⟨fun p hp => ?_, fun p hp => ?_, Nat.le_trans (formOf_len F) hl⟩
  · obtain ⟨q, hq, e⟩ := List.mem_map.mp (formOf_key hp)
    rw [← e]; exact h1 q hq
  · rw [((formOf_mem F p).mp hp).1]
    have a := sumK_le (ns := p.1) h2
    have b : F.length * bn i ≤ 300 * bn i := Nat.mul_le_mul_right _ (by omega)
    have c := bn_s i
    have d := bn_le (show i + 1 ≤ 35 by omega)
    omega
theorem t_worth {F : List Pr} {s : List Int} (h : Es F) (hs : s ∈ E 4) : LF.t_form_worth (fmD F) (ti s) = pure (.int (wo s F)) :=
  t_form_worth_eq h.fo (by have := (e4_facts.2 s hs).1; omega) (by have := h.l; omega)
theorem law_worth {F : List Pr} {s : List Int} (h : Es F) (hs : s ∈ E 4) : t__law_form_worth (fmD F) (ti s) = pure (.int (wo s F)) :=
  worth_any (sItems_t _) h.fo (by have := (e4_facts.2 s hs).1; omega) (by have := h.l; omega) t__law_count fun p hp => t__law_count_eq hs (h.m p hp)
theorem un2_pr (p : Pr) : un2 (LF.prD p) = some (ti p.1, .int p.2) := rfl
theorem table_step {F : List Pr} {s : List Int} {n : Int} (h1 : ∀ p ∈ F, p.1 ∈ E 4) (h2 : ∀ p ∈ F, p.2.natAbs ≤ bn 34) (hl : F.length ≤ 50) (hs : s ∈ E 4) : tlb_form_of_table_1 (.list (F.map LF.prD)) (ti s, .int n) = pure (.list ((F ++ [(s, n - wo s F)]).map LF.prD)) := by
  have he := form_es h1 h2 (Nat.le_refl _) (by omega)
  have hf : LF.t_form_of_pairs (.list (F.map LF.prD)) = pure (fmD (formOf F)) := t_form_of_pairs_l (by omega)
  have hw := t_worth he hs
  rw [wo_form] at hw
  unfold tlb_form_of_table_1
  simp only [pure_bind, hf, noLstS_fm, hw, sBin_p, pySub_ii, sOp_d, sNil_p, sCons_p, sTup_p, sSz_2]
  rw [appS_eq (by rw [List.length_map]; omega), pure_bind, List.map_append]
  rfl
theorem told_step {F : List Pr} {s : List Int} {n : Int} (h1 : ∀ p ∈ F, p.1 ∈ E 4) (h2 : ∀ p ∈ F, p.2.natAbs ≤ bn 34) (hl : F.length ≤ 50) (hs : s ∈ E 4) : tlb__law_told_1 (.list (F.map LF.prD)) (ti s, .int n) = pure (.list ((F ++ [(s, n - wo s F)]).map LF.prD)) := by
  have he : Es F := ⟨h1, fun p hp => Nat.le_trans (h2 p hp) (bn_le (by omega)), by omega⟩
  have hw := worth_any (x := .list (F.map LF.prD)) (sItems_l _) he.fo (s := s) (by have := (e4_facts.2 s hs).1; omega) (by omega) t__law_count fun p hp => t__law_count_eq hs (h1 p hp)
  unfold tlb__law_told_1
  dsimp only
  rw [hw]
  simp only [pure_bind, noLstS_i, sBin_p, pySub_ii, sOp_d, sNil_p, sCons_p, sTup_p, sSz_2]
  rw [appS_eq (by rw [List.length_map]; omega), pure_bind, List.map_append]
  rfl
/-- both loops -/
theorem sol_fold (tb : PyData → PyData × PyData → S PyData) (ht : ∀ {F : List Pr} {s : List Int} {n : Int}, (∀ p ∈ F, p.1 ∈ E 4) → (∀ p ∈ F, p.2.natAbs ≤ bn 34) → F.length ≤ 50 → s ∈ E 4 → tb (.list (F.map LF.prD)) (ti s, .int n) = pure (.list ((F ++ [(s, n - wo s F)]).map LF.prD))) :
    ∀ (zs F : List Pr) (i : Nat), (∀ z ∈ zs, z.1 ∈ E 4) → (∀ z ∈ zs, z.2.natAbs ≤ bn 0) → (∀ p ∈ F, p.1 ∈ E 4) → (∀ p ∈ F, p.2.natAbs ≤ bn i) → F.length ≤ i → i + zs.length ≤ 34 →
    foldS (fun w_ x_ => S.opt (un2 x_) >>= tb w_) (zs.map LF.prD) (.list (F.map LF.prD)) = pure (.list ((sol zs F).map LF.prD))
  | [], F, i, _, _, _, _, _, _ => rfl
  | z :: r, F, i, k1, k2, h1, h2, hl, hi => by
    rw [List.length_cons] at hi
    have hw := wo_le (k1 z (by simp)) h1 h2
    have hn := k2 z (by simp)
    have hb := bn_le (Nat.zero_le i)
    have hm : F.length * (bn i * 6) ≤ 34 * (bn i * 6) := Nat.mul_le_mul_right _ (by omega)
    have hc : (z.2 - wo z.1 F).natAbs ≤ bn (i + 1) := by
      rw [bn_s]
      omega
    have s1 := ht (F := F) (s := z.1) (n := z.2) h1 (fun p hp => Nat.le_trans (h2 p hp) (bn_le (by omega))) (by omega) (k1 z (by simp))
    rw [List.map_cons, foldS_cons, un2_pr, opt_some, pure_bind, s1, pure_bind]
    refine sol_fold tb ht r _ (i + 1) (fun y hy => k1 y (List.mem_cons_of_mem _ hy)) (fun y hy => k2 y (List.mem_cons_of_mem _ hy)) (fun p hp => ?_) (fun p hp => ?_) (by rw [List.length_append, List.length_singleton]; omega) (by omega)
    · rcases List.mem_append.mp hp with hp | hp
      · exact h1 p hp
      · rw [List.mem_singleton.mp hp]; exact k1 z (by simp)
    · rcases List.mem_append.mp hp with hp | hp
      · exact Nat.le_trans (h2 p hp) (bn_le (by omega))
      · rw [List.mem_singleton.mp hp]; exact hc
/-- numbers on the orders of at most k things -/
structure Nm (k : Nat) (zs : List Pr) : Prop where
  kk : k ≤ 4
  m : zs.map (·.1) = E k
  c : ∀ z ∈ zs, z.2.natAbs ≤ bn 0
section
variable {k : Nat} {zs : List Pr} (h : Nm k zs)
include h
theorem nm_len : zs.length ≤ 34 := by
  have hk := h.kk
  have e := congrArg List.length h.m
  rw [List.length_map] at e
  have : (E k).length ≤ 34 := (e_nodup ⟨k, by omega⟩).2.1
  omega
theorem nm_e4 : ∀ z ∈ zs, z.1 ∈ E 4 := fun z hz => by
  have hk := h.kk
  have : z.1 ∈ E k := by rw [← h.m]; exact List.mem_map.mpr ⟨z, hz, rfl⟩
  exact (e_sub ⟨k, by omega⟩ _ this).1
theorem nm_sol : ∀ p ∈ sol zs [], p.1 ∈ E 4 ∧ p.2.natAbs ≤ bn 34 := sol_b zs [] 0 (nm_e4 h) h.c (fun p hp => by cases hp) (fun p hp => by cases hp) (by simp) (by have := nm_len h; omega)
theorem nm_keys : (sol zs []).map (·.1) = E k := by
  have hk := h.kk
  obtain ⟨R, e1, e2, _⟩ := sol_ok zs [] (by rw [h.m]; exact keys_e hk)
  rw [e1, List.nil_append, e2, h.m]
theorem nm_wo : ∀ z ∈ zs, wo z.1 (sol zs []) = z.2 := by
  have hk := h.kk
  obtain ⟨R, e1, e2, e3⟩ := sol_ok zs [] (by rw [h.m]; exact keys_e hk)
  rw [e1]; exact e3
theorem nm_slen : (sol zs []).length ≤ 34 := by
  have hk := h.kk
  have e := congrArg List.length (nm_keys h)
  rw [List.length_map] at e
  have : (E k).length ≤ 34 := (e_nodup ⟨k, by omega⟩).2.1
  omega
theorem zip_nm : List.zip (E k) (zs.map (·.2)) = zs := by
  rw [← h.m]
  clear h
  induction zs with
  | nil => rfl
  | cons z zs ih => rw [List.map_cons, List.map_cons, List.zip_cons_cons, ih]
theorem zipped_nm : zipped ((E k).map ti) ((zs.map (·.2)).map .int) = zs.map LF.prD := by
  rw [← h.m]
  clear h
  induction zs with
  | nil => rfl
  | cons z zs ih =>
    rw [List.map_cons, List.map_cons, List.map_cons, List.map_cons, List.map_cons]
    show PyData.tuple [ti z.1, .int z.2] :: zipped _ _ = _
    rw [ih]
    rfl
theorem form_of_table_any {x : PyData} (hx : sZipM (pure (.tuple ((E k).map ti))) (pure x) = pure (zs.map LF.prD)) : t_form_of_table (.int (k : Int)) x = pure (fmD (formOf (sol zs []))) := by
  unfold t_form_of_table
  have hf := sol_fold tlb_form_of_table_1 table_step zs [] 0 (nm_e4 h) h.c (fun p hp => by cases hp) (fun p hp => by cases hp) (by simp) (by have := nm_len h; omega)
  simp only [sNil_p, sLst_p, sSz_nil, pure_bind, little_eq h.kk]
  rw [hx, pure_bind]
  rw [show (PyData.list ([] : List PyData)) = .list (([] : List Pr).map LF.prD) from rfl, hf, pure_bind]
  exact t_form_of_pairs_l (by have := nm_slen h; omega)
theorem form_of_table_t : t_form_of_table (.int (k : Int)) (.tuple ((zs.map (·.2)).map .int)) = pure (fmD (formOf (sol zs []))) := form_of_table_any h (by rw [← zipped_nm h]; rfl)
theorem form_of_table_l : t_form_of_table (.int (k : Int)) (.list ((zs.map (·.2)).map .int)) = pure (fmD (formOf (sol zs []))) := form_of_table_any h (by rw [← zipped_nm h]; rfl)
theorem law_told_eq : t__law_told (.list ((E k).map ti)) (.tuple ((zs.map (·.2)).map .int)) = pure (fmD (formOf (sol zs []))) := by
  unfold t__law_told
  have hf := sol_fold tlb__law_told_1 told_step zs [] 0 (nm_e4 h) h.c (fun p hp => by cases hp) (fun p hp => by cases hp) (by simp) (by have := nm_len h; omega)
  have hx : sZipM (pure (.list ((E k).map ti))) (pure (.tuple ((zs.map (·.2)).map .int))) = pure (zs.map LF.prD) := by rw [← zipped_nm h]; rfl
  simp only [sNil_p, sLst_p, sSz_nil, pure_bind]
  rw [hx, pure_bind]
  rw [show (PyData.list ([] : List PyData)) = .list (([] : List Pr).map LF.prD) from rfl, hf, pure_bind]
  exact t_form_of_pairs_l (by have := nm_slen h; omega)
end
theorem table_of_eq {k : Nat} {F : List Pr} (hk : k ≤ 4) (h : Es F) : t_table_of (fmD F) (.int (k : Int)) = pure (.tuple ((E k).map fun s => .int (wo s F))) := by
  unfold t_table_of
  have h1 := LF.compA_enc (l := E k) (e := ti) (xs := sItems ((pure (.int (k : Int))) >>= fun y1 => t_little_orders y1)) (by rw [pure_bind, little_eq hk, sItems_t]) (ce := fun q2 => ((pure (fmD F)) >>= fun y3 => ((pure q2) >>= fun y4 => LF.t_form_worth y3 y4))) (fun s => .int (wo s F))
    (fun s hs => by simp only [pure_bind, t_worth h ((e_sub ⟨k, by omega⟩ s hs).1)]) (by have : (E k).length ≤ 34 := (e_nodup ⟨k, by omega⟩).2.1; omega)
  rw [h1]
  simp only [sNil_p, sCons_p, sCallB_p, tupOf_l, sOp_d]
end LT
namespace LGk30
open PySem L2 DL
theorem wh_unfold (k : Nat) (t : M Bool) (b : M Fl) : whileD t b (k + 1) = t.bind fun c => if c then b.bind fun fl => match fl with
      | .nx => whileD t b k
      | .ct => whileD t b k
      | .bk => mNx
      | .rt v => M.pure (.rt v)
    else mNx := rfl
abbrev pe0 (n : Int) : Env' := [.src false, .d (.int n), .src true, .un, .un, .un]
def pickT : M Bool := (mAndT (M.bind (mBin pyLt (mSrcGet "left" (mVarB 0)) (mK (.int 2))) mBool) (M.bind (mBin pyGt (mSrcLen (mVarB 2)) (mK (.int 0))) mBool))
def pickB : M Fl := (mSrcPut "left" (mSrcPop (mVarB 2)) (mVarB 0))
theorem pickT_eq (n : Int) (s : Src) : pickT (pe0 n) (some s) = .ok (decide (s.left < 2) && decide (0 < s.cells.length)) (pe0 n) (some s) := by
  have hc : decide ((0 : Int) < (s.cells.length : Nat)) = decide (0 < s.cells.length) := by
    by_cases h : 0 < s.cells.length
    · rw [decide_eq_true h, decide_eq_true (by omega)]
    · rw [decide_eq_false h, decide_eq_false (by omega)]
  cases h2 : decide (s.left < 2) <;> simp only [pickT, isT_l, isT_t, isT_i, isT_n, bodyRun, startE, slotArg, M.bind, M.pure, M.opt, mK, mVar, mVarB, mFrz, mBin, mUn, look, mBool, mAndT, mOrT, mNotT, mAndV, mOrV, mNotV, mIf, mNil, mCons, mArg, dataOf, mDisp, mSized, lookAll, mCallB, mIsi, mSl, mPart, mRg1, mRg2, mIntOf, mItems, mRange1, mRange2, evInts, rng1, rng2, mEnum, mZip, mNx, mSeqS, mDrop, mRet, mRetV, mIfS, slotOf, mSet, mAsgP, mPar, mFor, mCall, isArg, RV.ev, List.map_cons, List.map_nil, List.length_cons, List.length_nil, List.replicate, List.cons_append, List.nil_append, List.getElem?_cons_zero, List.getElem?_cons_succ, List.set_cons_zero, List.set_cons_succ, Option.map_some, Option.map_none, Bool.not_true, Bool.not_false, if_true, Bool.false_eq_true, if_false, List.append_nil, Nat.sub_self, Nat.reduceAdd, Nat.reduceSub, Nat.add_zero, Nat.zero_add, mSrcGet, mSrcPut, mSrcLen, mSrcPop, get_cells, get_left, get_mixed, get_turn, srcPutV, put_left, put_mixed, put_turn, gtX_ints, ltX_ints, h2, hc, Bool.and_true, Bool.and_false, Bool.true_and, Bool.false_and]
theorem pickB_eq (n : Int) (s : Src) (c : Int) (h : s.cells[s.cells.length - 1]? = some c) : pickB (pe0 n) (some s) = .ok .nx (pe0 n) (some { s with cells := s.cells.dropLast, left := c }) := by
  simp only [pickB, isT_l, isT_t, isT_i, isT_n, bodyRun, startE, slotArg, M.bind, M.pure, M.opt, mK, mVar, mVarB, mFrz, mBin, mUn, look, mBool, mAndT, mOrT, mNotT, mAndV, mOrV, mNotV, mIf, mNil, mCons, mArg, dataOf, mDisp, mSized, lookAll, mCallB, mIsi, mSl, mPart, mRg1, mRg2, mIntOf, mItems, mRange1, mRange2, evInts, rng1, rng2, mEnum, mZip, mNx, mSeqS, mDrop, mRet, mRetV, mIfS, slotOf, mSet, mAsgP, mPar, mFor, mCall, isArg, RV.ev, List.map_cons, List.map_nil, List.length_cons, List.length_nil, List.replicate, List.cons_append, List.nil_append, List.getElem?_cons_zero, List.getElem?_cons_succ, List.set_cons_zero, List.set_cons_succ, Option.map_some, Option.map_none, Bool.not_true, Bool.not_false, if_true, Bool.false_eq_true, if_false, List.append_nil, Nat.sub_self, Nat.reduceAdd, Nat.reduceSub, Nat.add_zero, Nat.zero_add, mSrcGet, mSrcPut, mSrcLen, mSrcPop, get_cells, get_left, get_mixed, get_turn, srcPutV, put_left, put_mixed, put_turn, h]
theorem while_pick (n : Int) : ∀ (k : Nat) (s : Src), s.cells.length < k → ∃ s' : Src, whileD pickT pickB k (pe0 n) (some s) = .ok .nx (pe0 n) (some s') ∧ s'.cells.length ≤ s.cells.length
  | k + 1, s, h => by
    rw [wh_unfold, bind_eq (pickT_eq n s)]
    cases q : (decide (s.left < 2) && decide (0 < s.cells.length)) with
    | false => exact ⟨s, rfl, Nat.le_refl _⟩
    | true =>
      rw [Bool.and_eq_true, decide_eq_true_eq, decide_eq_true_eq] at q
      have hl := q.2
      have hc : s.cells[s.cells.length - 1]? = some s.cells[s.cells.length - 1] := List.getElem?_eq_getElem (by omega)
      obtain ⟨s', h1, h2⟩ := while_pick n k { s with cells := s.cells.dropLast, left := s.cells[s.cells.length - 1] } (by simp; omega)
      rw [if_pos rfl, bind_eq (pickB_eq n s _ hc)]
      exact ⟨s', h1, by simp at h2; omega⟩
/-- a number below n -/
theorem pick_ok (n : Int) (g : G) (hg : Live g) (h1 : n ≤ 1000000) : WpF (fm__law_pick [.src false, .d (.int n)] g) fun ev g' => ∃ i : Int, ev = .d (.int i) ∧ 0 ≤ i ∧ i < max 1 n ∧ Live g' := by
  obtain ⟨s, rfl, hs⟩ := hg
  obtain ⟨s', w, hl⟩ := while_pick n 1000000 s (by omega)
  have wh : wh__law_pick_1 [.src false, .d (.int n), .src true, .un, .un, .un] (some s) = .ok .nx (pe0 n) (some s') := by unfold wh__law_pick_1 fuel__law_pick; exact w
  cases q1 : decide (n < 2) with
  | true =>
    have hn : n < 2 := of_decide_eq_true q1
    refine WpF.of (ev := .d (.int 0)) (e := []) (g := some s) ?_ ⟨0, rfl, Int.le_refl _, by have := Int.le_max_left 1 n; omega, _, rfl, hs⟩
    simp only [fm__law_pick, bd__law_pick, isT_l, isT_t, isT_i, isT_n, bodyRun, startE, slotArg, M.bind, M.pure, M.opt, mK, mVar, mVarB, mFrz, mBin, mUn, look, mBool, mAndT, mOrT, mNotT, mAndV, mOrV, mNotV, mIf, mNil, mCons, mArg, dataOf, mDisp, mSized, lookAll, mCallB, mIsi, mSl, mPart, mRg1, mRg2, mIntOf, mItems, mRange1, mRange2, evInts, rng1, rng2, mEnum, mZip, mNx, mSeqS, mDrop, mRet, mRetV, mIfS, slotOf, mSet, mAsgP, mPar, mFor, mCall, isArg, RV.ev, List.map_cons, List.map_nil, List.length_cons, List.length_nil, List.replicate, List.cons_append, List.nil_append, List.getElem?_cons_zero, List.getElem?_cons_succ, List.set_cons_zero, List.set_cons_succ, Option.map_some, Option.map_none, Bool.not_true, Bool.not_false, if_true, Bool.false_eq_true, if_false, List.append_nil, Nat.sub_self, Nat.reduceAdd, Nat.reduceSub, Nat.add_zero, Nat.zero_add, mSrcGet, mSrcPut, mSrcLen, mSrcPop, get_cells, get_left, get_mixed, get_turn, srcPutV, put_left, put_mixed, put_turn, ltX_ints, q1]
  | false =>
    have hn : 2 ≤ n := by have := of_decide_eq_false q1; omega
    have hn0 : 0 < n := by omega
    have hmax : max 1 n = n := Int.max_eq_right (by omega)
    cases q2 : decide (1 < s'.left) with
    | true =>
      refine WpF.of (ev := .d (.int (s'.left % n))) (e := []) (g := some { s' with left := s'.left / n }) ?_ ⟨_, rfl, Int.emod_nonneg _ (by omega), by rw [hmax]; exact Int.emod_lt_of_pos _ hn0, _, rfl, by show s'.cells.length ≤ 63; omega⟩
      simp only [fm__law_pick, bd__law_pick, isT_l, isT_t, isT_i, isT_n, bodyRun, startE, slotArg, M.bind, M.pure, M.opt, mK, mVar, mVarB, mFrz, mBin, mUn, look, mBool, mAndT, mOrT, mNotT, mAndV, mOrV, mNotV, mIf, mNil, mCons, mArg, dataOf, mDisp, mSized, lookAll, mCallB, mIsi, mSl, mPart, mRg1, mRg2, mIntOf, mItems, mRange1, mRange2, evInts, rng1, rng2, mEnum, mZip, mNx, mSeqS, mDrop, mRet, mRetV, mIfS, slotOf, mSet, mAsgP, mPar, mFor, mCall, isArg, RV.ev, List.map_cons, List.map_nil, List.length_cons, List.length_nil, List.replicate, List.cons_append, List.nil_append, List.getElem?_cons_zero, List.getElem?_cons_succ, List.set_cons_zero, List.set_cons_succ, Option.map_some, Option.map_none, Bool.not_true, Bool.not_false, if_true, Bool.false_eq_true, if_false, List.append_nil, Nat.sub_self, Nat.reduceAdd, Nat.reduceSub, Nat.add_zero, Nat.zero_add, mSrcGet, mSrcPut, mSrcLen, mSrcPop, get_cells, get_left, get_mixed, get_turn, srcPutV, put_left, put_mixed, put_turn, wh, ltX_ints, gtX_ints, q1, q2, int_int, mod_ints hn0, fdiv_ints hn0 (show n ≤ 1000000000 by omega)]
    | false =>
      have p1 : (0 : Int) < 998244353 := by omega
      have p2 : (0 : Int) < 2147483647 := by omega
      have b1 : ((s'.mixed + (s'.turn + 1) * 104729) % 998244353).natAbs < 2 ^ 64 := by omega
      have m1 : pyMul (.int (s'.turn + 1)) (.int 104729) = some (.d (.int ((s'.turn + 1) * 104729))) := mul_right (by decide)
      have m2 : pyMul (.int (s'.turn + 1)) (.int 17) = some (.d (.int ((s'.turn + 1) * 17))) := mul_right (by decide)
      have m3 := mul_right (i := (s'.mixed + (s'.turn + 1) * 104729) % 998244353) b1
      refine WpF.of (ev := .d (.int ((((s'.mixed + (s'.turn + 1) * 104729) % 998244353 * ((s'.mixed + (s'.turn + 1) * 104729) % 998244353) + (s'.turn + 1) * 17) % 2147483647 / 16) % n))) (e := [])
        (g := some { s' with turn := s'.turn + 1 }) ?_ ⟨_, rfl, Int.emod_nonneg _ (by omega), by rw [hmax]; exact Int.emod_lt_of_pos _ hn0, _, rfl, by show s'.cells.length ≤ 63; omega⟩
      simp only [fm__law_pick, bd__law_pick, isT_l, isT_t, isT_i, isT_n, bodyRun, startE, slotArg, M.bind, M.pure, M.opt, mK, mVar, mVarB, mFrz, mBin, mUn, look, mBool, mAndT, mOrT, mNotT, mAndV, mOrV, mNotV, mIf, mNil, mCons, mArg, dataOf, mDisp, mSized, lookAll, mCallB, mIsi, mSl, mPart, mRg1, mRg2, mIntOf, mItems, mRange1, mRange2, evInts, rng1, rng2, mEnum, mZip, mNx, mSeqS, mDrop, mRet, mRetV, mIfS, slotOf, mSet, mAsgP, mPar, mFor, mCall, isArg, RV.ev, List.map_cons, List.map_nil, List.length_cons, List.length_nil, List.replicate, List.cons_append, List.nil_append, List.getElem?_cons_zero, List.getElem?_cons_succ, List.set_cons_zero, List.set_cons_succ, Option.map_some, Option.map_none, Bool.not_true, Bool.not_false, if_true, Bool.false_eq_true, if_false, List.append_nil, Nat.sub_self, Nat.reduceAdd, Nat.reduceSub, Nat.add_zero, Nat.zero_add, mSrcGet, mSrcPut, mSrcLen, mSrcPop, get_cells, get_left, get_mixed, get_turn, srcPutV, put_left, put_mixed, put_turn, wh, ltX_ints, gtX_ints, q1, q2, int_int, mod_ints hn0, mod_ints p1, mod_ints p2, add_ints, m1, m2, m3, fdiv_ints (show (0 : Int) < 16 by omega) (show (16 : Int) ≤ 1000000000 by omega)]
theorem bodyRun_env {n : Nat} {mb : M Fl} {evs : List EV} {g : G} {K : EV → G → Prop} (h : WpF (bodyRun n mb evs g) K) : ∃ ev g', bodyRun n mb evs g = .ok ev [] g' ∧ K ev g' := by
  unfold bodyRun at h ⊢
  cases q : mb (startE n evs) g with
  | bad => rw [q] at h; exact h.elim
  | exc _ _ _ _ => rw [q] at h; exact h.elim
  | ok fl e g' =>
    rw [q] at h
    cases fl with
    | nx => exact ⟨_, _, rfl, h⟩
    | bk => exact h.elim
    | ct => exact h.elim
    | rt v =>
      cases v with
      | bo i => exact h.elim
      | scr m => exact h.elim
      | _ => exact ⟨_, _, rfl, h⟩
theorem pick_eq (n : Int) (g : G) (hg : Live g) (h1 : n ≤ 1000000) : ∃ (i : Int) (g' : G), fm__law_pick [.src false, .d (.int n)] g = .ok (.d (.int i)) [] g' ∧ 0 ≤ i ∧ i < max 1 n ∧ Live g' := by
  obtain ⟨ev, g', h2, i, rfl, h3, h4, h5⟩ := bodyRun_env (pick_ok n g hg h1)
  exact ⟨i, g', h2, h3, h4, h5⟩
theorem pick_pos {n : Nat} (hn : 0 < n) {i : Int} (h0 : 0 ≤ i) (h : i < max 1 (n : Int)) : ∃ k : Nat, i = (k : Int) ∧ k < n := by
  obtain ⟨k, rfl⟩ := Int.eq_ofNat_of_zero_le h0
  refine ⟨k, rfl, ?_⟩
  rw [Int.max_eq_right (by omega)] at h
  omega
/-! ### the source -/
theorem src_loop : ∀ (ms : List Int) (xs : Slot) (m : Int) (s2 : Slot), (∀ x, s2 ≠ .own x) → ∃ m' s2', forD (.nm 2) lb__law_open_cells_1 (ms.map .int) [xs, .d (.int m), s2, .un] none = .ok .nx [xs, .d (.int m'), s2', .un] none ∧ ∀ x, s2' ≠ .own x
  | [], xs, m, s2, h => ⟨m, s2, rfl, h⟩
  | c :: ms, xs, m, s2, h => by
    obtain ⟨m', s2', ih, h2⟩ := src_loop ms xs ((m * 69069 + c * 31 + 5) % 2147483629) (.d (.int c)) nofun
    refine ⟨m', s2', ?_, h2⟩
    have m1 : pyMul (.int m) (.int 69069) = some (.d (.int (m * 69069))) := mul_right (by decide)
    have m2 : pyMul (.int c) (.int 31) = some (.d (.int (c * 31))) := mul_right (by decide)
    have hb : lb__law_open_cells_1 [xs, .d (.int m), .d (.int c), .un] none = .ok .nx [xs, .d (.int ((m * 69069 + c * 31 + 5) % 2147483629)), .d (.int c), .un] none := by
      simp only [lb__law_open_cells_1, isT_l, isT_t, isT_i, isT_n, bodyRun, startE, slotArg, M.bind, M.pure, M.opt, mK, mVar, mVarB, mFrz, mBin, mUn, look, mBool, mAndT, mOrT, mNotT, mAndV, mOrV, mNotV, mIf, mNil, mCons, mArg, dataOf, mDisp, mSized, lookAll, mCallB, mIsi, mSl, mPart, mRg1, mRg2, mIntOf, mItems, mRange1, mRange2, evInts, rng1, rng2, mEnum, mZip, mNx, mSeqS, mDrop, mRet, mRetV, mIfS, slotOf, mSet, mAsgP, mPar, mFor, mCall, isArg, RV.ev, List.map_cons, List.map_nil, List.length_cons, List.length_nil, List.replicate, List.cons_append, List.nil_append, List.getElem?_cons_zero, List.getElem?_cons_succ, List.set_cons_zero, List.set_cons_succ, Option.map_some, Option.map_none, Bool.not_true, Bool.not_false, if_true, Bool.false_eq_true, if_false, List.append_nil, Nat.sub_self, Nat.reduceAdd, Nat.reduceSub, Nat.add_zero, Nat.zero_add, m1, m2, add_ints, int_int, mod_ints (show (0 : Int) < 2147483629 by omega)]
    have ha : asg (.nm 2) (.int c) [xs, .d (.int m), s2, .un] = some [xs, .d (.int m), .d (.int c), .un] := rfl
    rw [List.map_cons]
    unfold forD
    rw [ha]
    dsimp only
    rw [bind_eq hb]
    exact ih
def absI (i : Int) : Int := if i < 0 then -i else i
theorem source_eq (ns : List Int) (h : ns.length ≤ 63) : ∃ g', fm__law_open_cells [.scr ns] none = .ok (.src false) [] g' ∧ Live g' := by
  obtain ⟨m', s2', L, no⟩ := src_loop ns (.scr ns) 11 .un nofun
  have lp : lp__law_open_cells_1 [.scr ns, .d (.int 11), .un, .un] none = .ok .nx [.scr ns, .d (.int m'), s2', .un] none := L
  have hno : noOwn [.scr ns, .d (.int m'), s2', .un] [2] = true := by
    cases s2' with
    | own x => exact absurd rfl (no x)
    | _ => rfl
  have hc : cp__law_open_cells_1 [.scr ns, .d (.int m'), s2', .un] none = .ok (.fr (li (ns.map absI))) [.scr ns, .d (.int m'), s2', .un] none := by
    have q : cp__law_open_cells_1 [.scr ns, .d (.int m'), s2', .un] none = _ := mComp_all (p := .nm 2) (vs := [2]) (ofI absI) (env1 := [.scr ns, .d (.int m'), s2', .un]) (xs := ns.map .int) (g1 := none) rfl hno (by rw [List.length_map, sizeLine_eq]; omega) fun y hy => by
      obtain ⟨p, hm, rfl⟩ := List.mem_map.mp hy
      refine ⟨[.scr ns, .d (.int m'), .d (.int p), .un], rfl, rfl, ?_⟩
      simp only [isT_l, isT_t, isT_i, isT_n, bodyRun, startE, slotArg, M.bind, M.pure, M.opt, mK, mVar, mVarB, mFrz, mBin, mUn, look, mBool, mAndT, mOrT, mNotT, mAndV, mOrV, mNotV, mIf, mNil, mCons, mArg, dataOf, mDisp, mSized, lookAll, mCallB, mIsi, mSl, mPart, mRg1, mRg2, mIntOf, mItems, mRange1, mRange2, evInts, rng1, rng2, mEnum, mZip, mNx, mSeqS, mDrop, mRet, mRetV, mIfS, slotOf, mSet, mAsgP, mPar, mFor, mCall, isArg, RV.ev, List.map_cons, List.map_nil, List.length_cons, List.length_nil, List.replicate, List.cons_append, List.nil_append, List.getElem?_cons_zero, List.getElem?_cons_succ, List.set_cons_zero, List.set_cons_succ, Option.map_some, Option.map_none, Bool.not_true, Bool.not_false, if_true, Bool.false_eq_true, if_false, List.append_nil, Nat.sub_self, Nat.reduceAdd, Nat.reduceSub, Nat.add_zero, Nat.zero_add, pyAbs, oneI, ofI, absI]
    rw [map_ofI] at q
    exact q
  have hcA : (mArg cp__law_open_cells_1) [.scr ns, .d (.int m'), s2', .un] none = .ok (.d (li (ns.map absI))) [.scr ns, .d (.int m'), s2', .un] none := by
    unfold mArg
    rw [bind_eq hc]
    rfl
  refine ⟨some ⟨(ns.map absI).reverse, 1, m', 0⟩, ?_, _, rfl, by simp; omega⟩
  simp only [fm__law_open_cells, bd__law_open_cells, isT_l, isT_t, isT_i, isT_n, bodyRun, startE, slotArg, M.bind, M.pure, M.opt, mK, mVar, mVarB, mFrz, mBin, mUn, look, mBool, mAndT, mOrT, mNotT, mAndV, mOrV, mNotV, mIf, mNil, mCons, hcA, dataOf, mDisp, mSized, lookAll, mCallB, mIsi, mSl, mPart, mRg1, mRg2, mIntOf, mItems, mRange1, mRange2, evInts, rng1, rng2, mEnum, mZip, mNx, mSeqS, mDrop, mRet, mRetV, mIfS, slotOf, mSet, mAsgP, mPar, mFor, mCall, isArg, RV.ev, List.map_cons, List.map_nil, List.length_cons, List.length_nil, List.replicate, List.cons_append, List.nil_append, List.getElem?_cons_zero, List.getElem?_cons_succ, List.set_cons_zero, List.set_cons_succ, Option.map_some, Option.map_none, Bool.not_true, Bool.not_false, if_true, Bool.false_eq_true, if_false, List.append_nil, Nat.sub_self, Nat.reduceAdd, Nat.reduceSub, Nat.add_zero, Nat.zero_add, lp, hc, mSrcNew, pyRev, srcNewD, ← List.map_reverse, intsOf_map]
/-! ### drawn, in functional terms -/
theorem fuel_pos : True := trivial
theorem tot_pick {n : Int} (h : n ≤ 1000000) : Tot (t__law_pick (.int n)) fun x => ∃ i : Int, x = .int i ∧ 0 ≤ i ∧ i < max 1 n := fun g hg => by
  obtain ⟨i, g', h1, h2, h3, h4⟩ := pick_eq n g hg h
  exact ⟨.int i, g', by unfold t__law_pick ofFM; rw [h1], h4, i, rfl, h2, h3⟩
theorem tot_pickN {n : Nat} (h0 : 0 < n) (h : n ≤ 1000000) : Tot (t__law_pick (.int (n : Int))) fun x => ∃ k : Nat, x = .int (k : Int) ∧ k < n :=
  (tot_pick (by omega)).mono fun x ⟨i, e, h1, h2⟩ => by
    obtain ⟨k, rfl, hk⟩ := pick_pos h0 h1 h2
    exact ⟨k, e, hk⟩
theorem tot_src {ns : List Int} (h : ns.length ≤ 63) : ∃ g', srcS fm__law_open_cells ns none = some ((), g') ∧ Live g' := by
  obtain ⟨g', h1, h2⟩ := source_eq ns h
  exact ⟨g', by unfold srcS; rw [h1], h2⟩
theorem tot_of {ds : List PyData} (h0 : 0 < ds.length) (h : ds.length ≤ 1000000) : Tot (t__law_of (.list ds)) fun x => x ∈ ds := by
  unfold t__law_of
  simp only [sNil_p, sCons_p, sCallB_p, len_l, sOp_d, pure_bind, sBin]
  refine Tot.bind (tot_pickN h0 h) fun x ⟨k, e, hk⟩ => ?_
  subst e
  have ha : atI ds (k : Int) = some ds[k] := atI_nat (List.getElem?_eq_getElem hk)
  simp only [pyIx, ha, Option.map_some, sOp_d]
  exact Tot.pure (List.getElem_mem hk)
theorem tot_ofT {ds : List PyData} (h0 : 0 < ds.length) (h : ds.length ≤ 1000000) : Tot (t__law_of (.tuple ds)) fun x => x ∈ ds := by
  unfold t__law_of
  simp only [sNil_p, sCons_p, sCallB_p, len_t, sOp_d, pure_bind, sBin]
  refine Tot.bind (tot_pickN h0 h) fun x ⟨k, e, hk⟩ => ?_
  subst e
  have ha : atI ds (k : Int) = some ds[k] := atI_nat (List.getElem?_eq_getElem hk)
  simp only [pyIx, ha, Option.map_some, sOp_d]
  exact Tot.pure (List.getElem_mem hk)
end LGk30
namespace LGk30
open PySem L2 DL LF LT
@[irreducible] def b30 : Nat := 10 ^ 30
theorem b30_eq : b30 = 10 ^ 30 := by unfold b30; rfl
theorem b30_bn : 200 * b30 ≤ bn 0 := by rw [b30_eq, bn_0]; decide
theorem tot_k {j : Int} (hj : j = 0 ∨ j = 1) : Tot (sBin pyIx (sLst (sCons ((pure (.int 4)) >>= fun y2 => t__law_pick y2) (sCons (sBin pyAdd (pure (.int 3)) (sCallB pyInt (sCons (sBin pyEq ((pure (.int 8)) >>= fun y3 => t__law_pick y3) (pure (.int 0))) sNil))) sNil))) (pure (.int j))) fun x => ∃ k : Nat, x = .int (k : Int) ∧ k ≤ 4 := by
  rw [bin_q]
  simp only [sLst, sCons, sNil, sBin, sCallB, pure_bind, bind_assoc]
  refine Tot.bind (tot_pickN (n := 4) (by omega) (by omega)) fun x ⟨a, e, ha⟩ => ?_
  subst e
  refine Tot.bind (tot_pickN (n := 8) (by omega) (by omega)) fun x ⟨b, e, hb⟩ => ?_
  subst e
  simp only [pyEq_ii, sOp_d, pure_bind]
  have hi : ∀ c : Bool, pyInt [.bool c] = some (.d (.int (if c then 1 else 0))) := fun c => by cases c <;> rfl
  simp only [hi, sOp_d, pure_bind, pyAdd_ii, sSz_2]
  rcases hj with rfl | rfl
  · exact Tot.pure ⟨a, rfl, by omega⟩
  · refine Tot.pure ⟨if decide ((b : Int) = 0) then 4 else 3, ?_, by split <;> omega⟩
    cases decide ((b : Int) = 0) <;> rfl
def numS : S PyData := (sLst (sCons (pure (.int 0)) (sCons (pure (.int 0)) (sCons (pure (.int 1)) (sCons (sUn pyNeg (pure (.int 1))) (sCons (pure (.int 2)) (sCons (pure (.int 7)) (sCons (sUn pyNeg (sBin pyPow (pure (.int 10)) (pure (.int 30)))) sNil))))))))
theorem ints_of {ys : List PyData} {B : Nat} (h : ∀ y ∈ ys, ∃ c : Int, y = .int c ∧ c.natAbs ≤ B) : ∃ cs : List Int, ys = cs.map .int ∧ ∀ c ∈ cs, c.natAbs ≤ B := by
  induction ys with
  | nil => exact ⟨[], rfl, fun c hc => by cases hc⟩
  | cons y ys ih =>
    obtain ⟨cs, rfl, hc⟩ := ih fun z hz => h z (List.mem_cons_of_mem _ hz)
    obtain ⟨c, rfl, h1⟩ := h y (by simp)
    exact ⟨c :: cs, rfl, fun d hd => by
      rcases List.mem_cons.mp hd with rfl | hd
      · exact h1
      · exact hc d hd⟩
theorem tot_nums {k : Nat} (hk : k ≤ 4) : Tot (sCallB pyTupOf (sCons (sCompA un1 (sItems (pure (.list ((E k).map ti)))) (fun q7 => ((sLst (sCons (pure (.int 0)) (sCons (pure (.int 0)) (sCons (pure (.int 1)) (sCons (sUn pyNeg (pure (.int 1))) (sCons (pure (.int 2)) (sCons (pure (.int 7)) (sCons (sUn pyNeg (sBin pyPow (pure (.int 10)) (pure (.int 30)))) sNil)))))))) >>= fun y8 => t__law_of y8))) sNil)) fun x => ∃ zs : List Pr, x = .tuple ((zs.map (·.2)).map .int) ∧ Nm k zs ∧ ∀ z ∈ zs, z.2.natAbs ≤ b30 := by
  have e2 : (sLst (sCons (pure (.int 0)) (sCons (pure (.int 0)) (sCons (pure (.int 1)) (sCons (sUn pyNeg (pure (.int 1))) (sCons (pure (.int 2)) (sCons (pure (.int 7)) (sCons (sUn pyNeg (sBin pyPow (pure (.int 10)) (pure (.int 30)))) sNil)))))))) = (pure (.list ([0, 0, 1, -1, 2, 7, -(10 ^ 30)].map PyData.int)) : S PyData) := rfl
  have hE := (e_nodup ⟨k, by omega⟩).2.1
  have hE : (E k).length ≤ 34 := hE
  rw [e2]
  rw [sNil_p, callB_b, sItems_l, sCompA_p, mapG_map]
  simp only [un1_p, opt_some, pure_bind, bind_assoc]
  refine Tot.bind (Tot.mapA (fun y => ∃ c : Int, y = .int c ∧ c.natAbs ≤ b30) fun s _ => (tot_of (by decide) (by decide)).mono fun y hy => ?_) fun ys ⟨yl, yb⟩ => ?_
  · obtain ⟨c, hc, rfl⟩ := List.mem_map.mp hy
    refine ⟨c, rfl, ?_⟩
    rw [b30_eq]
    simp only [List.mem_cons, List.not_mem_nil, or_false] at hc
    rcases hc with rfl | rfl | rfl | rfl | rfl | rfl | rfl <;> decide
  · obtain ⟨cs, rfl, hc⟩ := ints_of yb
    rw [List.length_map] at yl
    rw [sSz_eq _ (by rw [List.length_map]; omega), pure_bind, tupOf_l, sOp_d]
    have h1 : (List.zip (E k) cs).map (·.1) = E k := List.map_fst_zip (by omega)
    have h2 : (List.zip (E k) cs).map (·.2) = cs := List.map_snd_zip (by omega)
    have h3 : ∀ z ∈ List.zip (E k) cs, z.2.natAbs ≤ b30 := fun z hz => hc _ (List.of_mem_zip hz).2
    refine Tot.pure ⟨List.zip (E k) cs, by rw [h2], ⟨hk, h1, fun z hz => ?_⟩, h3⟩
    have := h3 z hz
    have := b30_bn
    omega
/-! a drawn form -/
structure Ps (k m : Nat) (ps : List Pr) : Prop where
  l : ps.length ≤ m
  e : ∀ p ∈ ps, p.1 ∈ E k
  c : ∀ p ∈ ps, p.2.natAbs ≤ b30
theorem form_step {k m : Nat} (hk : k ≤ 4) {ps : List Pr} (h : Ps k m ps) (hm : m ≤ 100) (q : PyData) : Tot (tlb__law_form_1 (.list ((E k).map ti)) (.list (ps.map LF.prD)) q) fun x => ∃ ps', x = .list (ps'.map LF.prD) ∧ Ps k (m + 1) ps' := by
  have e2 : (sLst (sCons (pure (.int 1)) (sCons (pure (.int 1)) (sCons (pure (.int 2)) (sCons (sUn pyNeg (pure (.int 1))) (sCons (sUn pyNeg (pure (.int 3))) (sCons (pure (.int 4)) (sCons (pure (.int 6)) (sCons (sBin pyPow (pure (.int 10)) (pure (.int 30))) sNil))))))))) = (pure (.list ([1, 1, 2, -1, -3, 4, 6, 10 ^ 30].map PyData.int)) : S PyData) := rfl
  have hE : (E k).length ≤ 34 ∧ 0 < (E k).length := (e_nodup ⟨k, by omega⟩).2
  unfold tlb__law_form_1
  rw [e2]
  simp only [sTup, sCons, sNil, pure_bind, bind_assoc]
  refine Tot.bind (tot_of (ds := (E k).map ti) (by rw [List.length_map]; exact hE.2) (by rw [List.length_map]; omega)) fun x hx => ?_
  obtain ⟨s, hs, rfl⟩ := List.mem_map.mp hx
  refine Tot.bind (tot_of (by decide) (by decide)) fun x hx => ?_
  obtain ⟨c, hc, rfl⟩ := List.mem_map.mp hx
  have hc' : c.natAbs ≤ b30 := by
    rw [b30_eq]
    simp only [List.mem_cons, List.not_mem_nil, or_false] at hc
    rcases hc with rfl | rfl | rfl | rfl | rfl | rfl | rfl | rfl <;> decide
  rw [sSz_2, pure_bind, appS_eq (by rw [List.length_map]; have := h.l; omega), pure_bind]
  refine Tot.pure ⟨ps ++ [(s, c)], by rw [List.map_append]; rfl, by rw [List.length_append, List.length_singleton]; have := h.l; omega, fun p hp => ?_, fun p hp => ?_⟩ <;> rcases List.mem_append.mp hp with hp | hp
  · exact h.e p hp
  · rw [List.mem_singleton.mp hp]; exact hs
  · exact h.c p hp
  · rw [List.mem_singleton.mp hp]; exact hc'
theorem form_fold {k : Nat} (hk : k ≤ 4) : ∀ (l : List PyData) (ps : List Pr) (j : Nat), Ps k j ps → j + l.length ≤ 100 → Tot (foldS (fun w_ x_ => S.opt (un1 x_) >>= (tlb__law_form_1 (.list ((E k).map ti))) w_) l (.list (ps.map LF.prD))) fun x => ∃ ps', x = .list (ps'.map LF.prD) ∧ Ps k (j + l.length) ps'
  | [], ps, j, h, _ => Tot.pure ⟨ps, rfl, h⟩
  | q :: l, ps, j, h, hl => by
    rw [List.length_cons] at hl
    rw [foldS_cons, un1_p, opt_some, pure_bind]
    refine Tot.bind (form_step hk h (by omega) q) fun x ⟨ps', e, h'⟩ => ?_
    subst e
    have := form_fold hk l ps' (j + 1) h' (by omega)
    rwa [show j + 1 + l.length = j + (q :: l).length by simp; omega] at this
theorem b_put : t__law_put = LF.t_form_of_pairs := rfl
theorem b_little : t__law_little = LT.t__law_little := rfl
theorem tot_form {k : Nat} (hk : k ≤ 4) : Tot (t__law_form (.int (k : Int)) (.int 4)) fun x => ∃ F, x = fmD F ∧ Can F ∧ (∀ p ∈ F, p.1 ∈ E k) ∧ (∀ p ∈ F, p.2.natAbs ≤ 4 * b30) ∧ F.length ≤ 4 := by
  unfold t__law_form
  simp only [pure_bind, b_little, law_little_eq hk, sNil_p, sLst_p, sSz_nil]
  unfold sRange1
  simp only [bind_assoc, sBin_p, pyAdd_ii, sOp_d, pure_bind]
  refine Tot.bind (tot_pickN (n := 5) (by omega) (by omega)) fun x ⟨n, e, hn⟩ => ?_
  subst e
  rw [show intS (.int (n : Int)) = pure (n : Int) from rfl]
  simp only [pure_bind, rng0 (show n ≤ 16777216 by omega), opt_some]
  refine Tot.bind (form_fold hk ((ints0 n).map .int) [] 0 ⟨by simp, fun p hp => (by cases hp), fun p hp => (by cases hp)⟩ (by rw [List.length_map, ints0_length]; omega)) fun x ⟨ps, e, h⟩ => ?_
  subst e
  rw [List.length_map, ints0_length, Nat.zero_add] at h
  have hl := h.l
  rw [b_put, t_form_of_pairs_l (by omega)]
  refine Tot.pure ⟨formOf ps, rfl, formOf_can ps, fun p hp => ?_, fun p hp => ?_, Nat.le_trans (formOf_len ps) (by omega)⟩
  · obtain ⟨q, hq, e⟩ := List.mem_map.mp (formOf_key hp)
    rw [← e]; exact h.e q hq
  · rw [((formOf_mem ps p).mp hp).1]
    exact Nat.le_trans (sumK_le h.c) (Nat.mul_le_mul_right _ (by omega))
end LGk30
namespace LGk30
open PySem L2 DL LF LT
theorem int_rk {i : Int} (h : i.natAbs < 10 ^ 150) : Rk 1 162 (.int i) := Rk.intB (m := 160) (Nat.lt_of_lt_of_le h (Nat.pow_le_pow_right (by decide) (by omega))) (by omega)
theorem pr_rk {p : Pr} (h1 : p.1 ∈ E 4) (h2 : p.2.natAbs ≤ bn 35) : Rk 3 1500 (LF.prD p) := by
  obtain ⟨a1, _, _, a4⟩ := e4_facts.2 _ h1
  have hc : Rk 2 700 (.int p.2) := (int_rk (Nat.lt_of_le_of_lt (Nat.le_trans h2 (bn_le (by omega))) bn_top.1)).mono (by omega) (by omega)
  have ht : Rk 2 700 (ti p.1) := (Rk.tup (d := 1) (b := 162) (n := 4) (fun d hd => by
    obtain ⟨i, hi, rfl⟩ := List.mem_map.mp hd
    have := a4 i hi
    exact int_rk (Nat.lt_of_lt_of_le (show i.natAbs < 10 by omega) (by decide))) (by rw [List.length_map]; exact a1)).mono (by omega) (by omega)
  refine (Rk.tup (d := 2) (b := 700) (n := 2) (fun d hd => ?_) (by simp)).mono (by omega) (by omega)
  simp only [List.mem_cons, List.not_mem_nil, or_false] at hd
  rcases hd with rfl | rfl
  · exact ht
  · exact hc
theorem fm_rk {F : List Pr} (h : Es F) : Rk 4 160000 (fmD F) := (Rk.tup (d := 3) (b := 1500) (n := 100) (fun d hd => by
  obtain ⟨p, hp, rfl⟩ := List.mem_map.mp hd
  exact pr_rk (h.m p hp) (h.c p hp)) (by rw [List.length_map]; exact h.l)).mono (by omega) (by omega)
theorem rep_ok {x : PyData} {d b : Nat} (h : Rk d b x) (hd : d ≤ 60) (hb : b ≤ 16000000) : ∃ z, pyRepr1 x = some (.d (.str z)) := ⟨_, repr_eq (h.ok hd (by omega))⟩
theorem same_rep {a b : S PyData} {x : PyData} (ha : a = pure x) (hb : b = pure x) {d n : Nat} (hx : Rk d n x) (hd : d ≤ 60) (hn : n ≤ 16000000) : sBool (sBin pyNe (sRepr a) (sRepr b)) = pure false := by
  obtain ⟨z, r⟩ := rep_ok hx hd hn
  rw [ha, hb]
  simp only [sRepr_p, r, sOp_d, sBin_p, ne_str_self, sBool_p]
/-- orders of E 4 are orders -/
theorem ord_e4 {s : List Int} (h : s ∈ E 4) : isort s = ints0 s.length := by
  obtain ⟨_, _, a3, _⟩ := e4_facts.2 s h
  have hp : s.Perm (ints0 s.length) := List.isPerm_iff.mp a3
  have hs : (ints0 s.length).Pairwise (· ≤ ·) := by
    unfold ints0
    refine List.pairwise_map.mpr ((List.pairwise_lt_range).imp fun {a b} (h : a < b) => ?_)
    show (a : Int) ≤ (b : Int)
    omega
  exact List.Perm.eq_of_pairwise (le := fun a b : Int => a ≤ b) (fun a b _ _ x y => Int.le_antisymm x y) (LO.isort_sorted _) hs ((LO.isort_perm _).trans hp)
section
variable {k : Nat} {zs F : List Pr} (h : Nm k zs) (hz : ∀ z ∈ zs, z.2.natAbs ≤ b30) (hF : Can F ∧ (∀ p ∈ F, p.1 ∈ E k) ∧ (∀ p ∈ F, p.2.natAbs ≤ 4 * b30) ∧ F.length ≤ 4)
include h
theorem t_es : Es (formOf (sol zs [])) := form_es (fun p hp => (nm_sol h p hp).1) (fun p hp => (nm_sol h p hp).2) (Nat.le_refl _) (by have := nm_slen h; omega)
theorem t_keys : ∀ p ∈ formOf (sol zs []), p.1 ∈ E k := fun p hp => by rw [← nm_keys h]; exact formOf_key hp
theorem t_isform : LF.t_is_form (fmD (formOf (sol zs []))) = pure (.bool true) := by
  have hc := formOf_can (sol zs [])
  have he := t_es h
  have hw := (fm_rk he).wd
  rw [t_is_form_fm (by omega) fun p hp => ⟨ord_e4 (he.m p hp), by have := (e4_facts.2 _ (he.m p hp)).1; omega, hc.z p hp⟩]
  unfold upP
  rw [decide_eq_true hc.p]
theorem tab_eq : ((E k).map fun s => PyData.int (wo s (formOf (sol zs [])))) = (zs.map (·.2)).map .int := by
  have h1 : ∀ z ∈ zs, wo z.1 (formOf (sol zs [])) = z.2 := fun z hz => by rw [wo_form]; exact nm_wo h z hz
  rw [← h.m, List.map_map, List.map_map]
  refine List.map_congr_left fun z hz => ?_
  show PyData.int (wo z.1 (formOf (sol zs []))) = .int z.2
  rw [h1 z hz]
theorem size_t : sizeF (formOf (sol zs [])) ≤ k := by
  have hk := h.kk
  have hm : ∀ (l : List Int) (n : Int), n ≤ k → (∀ x ∈ l, x ≤ k) → l.foldl max n ≤ k := by
    intro l
    induction l with
    | nil => exact fun n h _ => h
    | cons x l ih =>
      intro n hn hl
      exact ih (max n x) (by have := hl x (by simp); omega) fun y hy => hl y (List.mem_cons_of_mem _ hy)
  have ha : ∀ x ∈ (formOf (sol zs [])).map (fun p : Pr => (p.1.length : Int)), x ≤ k := fun x hx => by
    obtain ⟨p, hp, rfl⟩ := List.mem_map.mp hx
    have := (e_sub ⟨k, by omega⟩ _ (t_keys h p hp)).2
    show (p.1.length : Int) ≤ k
    have h2 : p.1.length ≤ k := this
    omega
  unfold sizeF
  generalize (formOf (sol zs [])).map (fun p : Pr => (p.1.length : Int)) = l at *
  cases l with
  | nil => show (-1 : Int) ≤ k; omega
  | cons n r => exact hm r n (ha n (by simp)) fun y hy => ha y (List.mem_cons_of_mem _ hy)
end
theorem wo_bound {k : Nat} (hk : k ≤ 4) {F : List Pr} (hF : (∀ p ∈ F, p.1 ∈ E k) ∧ (∀ p ∈ F, p.2.natAbs ≤ 4 * b30) ∧ F.length ≤ 4) {s : List Int} (hs : s ∈ E 4) : (wo s F).natAbs ≤ 96 * b30 := by
  have h1 := wo_le hs (fun p hp => (e_sub ⟨k, by omega⟩ _ (hF.1 p hp)).1) hF.2.1
  have h2 : F.length * (4 * b30 * 6) ≤ 4 * (4 * b30 * 6) := Nat.mul_le_mul_right _ hF.2.2
  omega
theorem f_es {k : Nat} (hk : k ≤ 4) {F : List Pr} (hF : (∀ p ∈ F, p.1 ∈ E k) ∧ (∀ p ∈ F, p.2.natAbs ≤ 4 * b30) ∧ F.length ≤ 4) : Es F :=
  ⟨fun p hp => (e_sub ⟨k, by omega⟩ _ (hF.1 p hp)).1, fun p hp => by
    have := hF.2.1 p hp
    have := b30_bn
    have := bn_le (show 0 ≤ 35 by omega)
    omega, by have := hF.2.2; omega⟩
/-- the table of a form, told back -/
theorem back_eq {k : Nat} (hk : k ≤ 4) {F : List Pr} (hc : Can F) (hF : (∀ p ∈ F, p.1 ∈ E k) ∧ (∀ p ∈ F, p.2.natAbs ≤ 4 * b30) ∧ F.length ≤ 4) :
    Nm k ((E k).map fun s => (s, wo s F)) ∧ formOf (sol ((E k).map fun s => (s, wo s F)) []) = F := by
  have hn : Nm k ((E k).map fun s => (s, wo s F)) := ⟨hk, by rw [List.map_map]; exact (List.map_congr_left fun _ _ => rfl).trans (List.map_id _), fun z hz => by
    obtain ⟨s, hs, rfl⟩ := List.mem_map.mp hz
    have := wo_bound hk hF (e_sub ⟨k, by omega⟩ s hs).1
    have := b30_bn
    show (wo s F).natAbs ≤ bn 0
    omega⟩
  refine ⟨hn, ?_⟩
  rw [uniq (ks := E k) (keys_e hk).m (fun p hp => by rw [← nm_keys hn]; exact List.mem_map.mpr ⟨p, hp, rfl⟩) hF.1 fun s hs => nm_wo hn (s, wo s F) (List.mem_map.mpr ⟨s, hs, rfl⟩), formOf_self hc]
/-- both tables together -/
theorem both_eq {k : Nat} {zs F : List Pr} (h : Nm k zs) (hz : ∀ z ∈ zs, z.2.natAbs ≤ b30) (hF : (∀ p ∈ F, p.1 ∈ E k) ∧ (∀ p ∈ F, p.2.natAbs ≤ 4 * b30) ∧ F.length ≤ 4) :
    Nm k (zs.map fun z => (z.1, z.2 + wo z.1 F)) ∧ formOf (sol (zs.map fun z => (z.1, z.2 + wo z.1 F)) []) = formOf (formOf (sol zs []) ++ F) := by
  have hn : Nm k (zs.map fun z => (z.1, z.2 + wo z.1 F)) := ⟨h.kk, by rw [List.map_map]; exact h.m, fun z hz' => by
    obtain ⟨y, hy, rfl⟩ := List.mem_map.mp hz'
    have := wo_bound h.kk hF (nm_e4 h y hy)
    have := hz y hy
    have := b30_bn
    show (y.2 + wo y.1 F).natAbs ≤ bn 0
    omega⟩
  refine ⟨hn, uniq (ks := E k) (keys_e h.kk).m (fun p hp => by rw [← nm_keys hn]; exact List.mem_map.mpr ⟨p, hp, rfl⟩) (fun p hp => ?_) fun s hs => ?_⟩
  · rcases List.mem_append.mp hp with hp | hp
    · exact t_keys h p hp
    · exact hF.1 p hp
  · rw [← h.m] at hs
    obtain ⟨y, hy, rfl⟩ := List.mem_map.mp hs
    have h1 := nm_wo hn (y.1, y.2 + wo y.1 F) (List.mem_map.mpr ⟨y, hy, rfl⟩)
    have h2 : wo y.1 (formOf (sol zs []) ++ F) = wo y.1 (formOf (sol zs [])) + wo y.1 F := W_app _ _ _
    rw [h2, wo_form, nm_wo h y hy]
    exact h1
/-! dict(list(told)).get -/
def setAll (ps d : List Pr) : List Pr := ps.foldl (fun d p => putP d p.1 p.2) d
theorem tpairs_pr : ∀ ps : List Pr, tpairs (ps.map LF.prD) = some (ps.map fun p => (kz p.1, .int p.2))
  | [] => rfl
  | p :: ps => by
    rw [List.map_cons]
    show (match keyT (ti p.1) with | some ks => (tpairs (ps.map LF.prD)).map fun qs => (ks, PyData.int p.2) :: qs | none => none) = _
    rw [keyT_ti]
    show (tpairs (ps.map LF.prD)).map _ = _
    rw [tpairs_pr ps]
    rfl
theorem putAllT_pr : ∀ (ps d : List Pr), (ps.map fun p => (kz p.1, PyData.int p.2)).foldl (fun r p => putT r p.1 p.2) (d.map inD) = (setAll ps d).map inD
  | [], d => rfl
  | p :: ps, d => by
    rw [List.map_cons, List.foldl_cons]
    show List.foldl _ (putT (d.map inD) (kz p.1) (.int p.2)) _ = _
    rw [putT_in, putAllT_pr ps]
    rfl
theorem setAll_old : ∀ (ps d : List Pr) (ns : List Int), (ps.map (·.1)).Nodup → oldP (setAll ps d) ns = if ns ∈ ps.map (·.1) then sumK ps ns else oldP d ns
  | [], d, ns, _ => rfl
  | p :: ps, d, ns, h => by
    rw [List.map_cons, List.nodup_cons] at h
    show oldP (setAll ps (putP d p.1 p.2)) ns = _
    rw [setAll_old ps _ ns h.2, old_put, sumK_cons, List.map_cons]
    by_cases hp : p.1 = ns
    · have hn : ns ∉ ps.map (·.1) := hp ▸ h.1
      rw [if_neg hn, if_pos hp, if_pos (by rw [hp]; simp), if_pos hp, sumK_not hn]; omega
    · rw [if_neg hp, if_neg hp]
      by_cases hm : ns ∈ ps.map (·.1)
      · rw [if_pos hm, if_pos (List.mem_cons_of_mem _ hm)]; omega
      · rw [if_neg hm, if_neg (fun z => by
          rcases List.mem_cons.mp z with z | z
          · exact hp z.symm
          · exact hm z)]
theorem get_eq {T : List Pr} (hc : Can T) (n : Nat) (hn : n ≤ 100) : (sGetE (sDictT (sCallB pyListOf (sCons (pure (fmD T)) sNil))) (sRgL .tuple (sRg1 (pure (.int (n : Int))))) (pure (.int 0))) = (pure (.int (sumK T (ints0 n))) : S PyData) := by
  have e1 : (sCallB pyListOf (sCons (pure (fmD T)) sNil)) = (pure (.list (T.map LF.prD)) : S PyData) := rfl
  have e2 : pyDictT (.list (T.map LF.prD)) = some ((setAll T []).map inD) := by
    show (tpairs (T.map LF.prD)).map putAllT = _
    rw [tpairs_pr]
    show some (putAllT _) = _
    congr 1
    exact putAllT_pr T []
  have e3 : sRgL PyData.tuple (sRg1 (pure (.int (n : Int)))) = pure (ti (ints0 n)) := by
    rw [show sRg1 (pure (.int (n : Int))) = pure ((0 : Int), (n : Int)) from rfl, rgL_nat _ (by omega)]
  have e4 : (getT ((setAll T []).map inD) (kz (ints0 n))).getD (.int 0) = .int (sumK T (ints0 n)) := by
    rw [getT_in]
    have : ((((setAll T []).find? fun p => p.1 == ints0 n).map fun p => PyData.int p.2).getD (.int 0)) = .int (oldP (setAll T []) (ints0 n)) := by
      unfold oldP
      cases (setAll T []).find? (fun p => p.1 == ints0 n) <;> rfl
    rw [this, setAll_old T [] _ hc.nodup]
    split
    · rfl
    · rename_i hm
      rw [sumK_not hm]; rfl
  rw [e1, e3]
  unfold sGetE sDictT
  simp only [pure_bind, e2, Option.map_some, opt_some, tdIn, mkT, keyT_ti, e4]
theorem W_two {a b : List Int} {f : List Int → Int} : ∀ {D : List Pr}, (∀ p ∈ D, f p.1 = (if p.1 = a then 1 else 0) + if p.1 = b then 1 else 0) → W f D = sumK D a + sumK D b
  | [], _ => rfl
  | p :: D, h => by
    rw [W_cons, sumK_cons, sumK_cons, h p (by simp), W_two fun q hq => h q (List.mem_cons_of_mem _ hq), Int.mul_add]
    split <;> split <;> simp <;> omega
theorem two_l : ∀ p ∈ E 4, cntL p [0] = (if p = [0] then 1 else 0) + if p = [] then 1 else 0 := by decide +kernel
theorem sum_0 {T : List Pr} (h : ∀ p ∈ T, p.1 ∈ E 4) : sumK T [] = wo [] T := (W_unit fun p hp => unit (h p hp) (show ([] : List Int) ∈ E 4 by decide) (by simp)).symm
theorem sum_1 {T : List Pr} (h : ∀ p ∈ T, p.1 ∈ E 4) : sumK T [0] + sumK T [] = wo [0] T := (W_two fun p hp => by
  have := (e4_facts.2 _ (h p hp)).1
  rw [cnt_eq (by decide) (by omega) (by decide), two_l _ (h p hp)]
  split <;> split <;> rfl).symm
end LGk30
namespace LGk30
open PySem L2 DL LF LT
theorem b_told : t__law_told = LT.t__law_told := rfl
theorem b_fot : t_form_of_table = LT.t_form_of_table := rfl
theorem b_tab : t_table_of = LT.t_table_of := rfl
theorem b_lfw : t__law_form_worth = LT.t__law_form_worth := rfl
theorem b_isf : t_is_form = LF.t_is_form := rfl
theorem b_size : t_form_size = LF.t_form_size := rfl
theorem b_sum : t_form_sum = LF.t_form_sum := rfl
theorem tot_no {β : Type} {B : S Bool} {X Y : S β} {Q : β → Prop} (hb : B = pure false) (hy : Tot Y Q) : Tot (sIf B X Y) Q := by
  rw [hb]
  exact hy
theorem comp2 {l : List Pr} {xs : S (List PyData)} (hx : xs = pure (l.map LF.prD)) {ct : PyData × PyData → S Bool} {ce : PyData × PyData → S PyData} (k : Pr → Bool) (h : Pr → PyData) (h1 : ∀ p ∈ l, ct (ti p.1, .int p.2) = pure (k p)) (h2 : ∀ p ∈ l, ce (ti p.1, .int p.2) = pure (h p)) (hl : l.length ≤ 1000) : sComp un2 xs ct ce = pure (.list ((l.filter k).map h)) := by
  subst hx
  have hc : compG (fun x : Pr => S.opt (un2 (LF.prD x)) >>= fun q => ct q >>= fun b => if b then ce q >>= fun y => pure (some y) else pure none) l = pure ((l.filter k).map h) := compG_eq k h fun x hx => by
    rw [un2_pr, opt_some, pure_bind, h1 x hx, pure_bind]
    cases k x
    · rfl
    · rw [if_pos rfl, if_pos rfl, h2 x hx, pure_bind]
  rw [sComp_p, compG_map]
  rw [hc, pure_bind, sSz_eq _ (by rw [List.length_map]; exact Nat.le_trans (List.length_filter_le _ _) (by omega))]
theorem compA2 {α : Type} {l : List α} {e f g : α → PyData} (hu : ∀ x, un2 (e x) = some (f x, g x)) {xs : S (List PyData)} (hx : xs = pure (l.map e)) {ce : PyData × PyData → S PyData} (h : α → PyData) (h2 : ∀ x ∈ l, ce (f x, g x) = pure (h x)) (hl : l.length ≤ 1000) : sCompA un2 xs ce = pure (.list (l.map h)) := by
  subst hx
  have hc : mapG (fun x => S.opt (un2 (e x)) >>= fun q => ce q) l = pure (l.map h) := mapG_eq h fun x hx => by
    rw [hu, opt_some, pure_bind, h2 x hx]
  rw [sCompA_p, mapG_map]
  rw [hc, pure_bind, sSz_eq _ (by rw [List.length_map]; omega)]
theorem ints_rk {l : List Int} (hl : l.length ≤ 40) (h : ∀ i ∈ l, i.natAbs < 10 ^ 150) : Rk 2 7000 (.tuple (l.map .int)) := (Rk.tup (d := 1) (b := 162) (n := 40) (fun d hd => by
  obtain ⟨i, hi, rfl⟩ := List.mem_map.mp hd
  exact int_rk (h i hi)) (by rw [List.length_map]; exact hl)).mono (by omega) (by omega)
theorem small_i {i : Int} (h : i.natAbs ≤ bn 0) : i.natAbs < 10 ^ 150 := Nat.lt_of_le_of_lt (Nat.le_trans h (bn_le (by omega))) bn_top.1
theorem line_eq {k : Nat} (hk : k ≤ 4) {p : List Int} (hp : p ∈ E k) : ∃ l : List Int, l.length ≤ 40 ∧ (∀ i ∈ l, i.natAbs < 10 ^ 150) ∧
    (sComp un1 (sItems (pure (.list ((E k).map ti)))) (fun q44 => (sBool (sBin pyLe (sCallB DL.pyLen (sCons (pure q44) sNil)) (sCallB DL.pyLen (sCons (pure (ti p)) sNil))))) (fun q44 => (sCallB pyInt (sCons (sBin pyEq (pure q44) (pure (ti p))) sNil)))) = pure (.list (l.map .int)) ∧
    ((sTup (sCons (sTup (sCons (pure (ti p)) (sCons (pure (.int 1)) sNil))) sNil)) >>= fun y46 => ((sCallB DL.pyLen (sCons (pure (ti p)) sNil)) >>= fun y47 => t_table_of y46 y47)) = pure (.tuple (l.map .int)) := by
  have hE : (E k).length ≤ 34 := (e_nodup ⟨k, by omega⟩).2.1
  obtain ⟨p4, pk⟩ : p ∈ E 4 ∧ p.length ≤ k := e_sub ⟨k, by omega⟩ p hp
  have hf : (E k).filter (fun s => decide (s.length ≤ p.length)) = E p.length := e_filter ⟨k, by omega⟩ ⟨p.length, by omega⟩ pk
  refine ⟨(E p.length).map fun s => if s = p then 1 else 0, ?_, ?_, ?_, ?_⟩
  · rw [List.length_map, ← hf]
    exact Nat.le_trans (List.length_filter_le _ _) (by omega)
  · intro i hi
    obtain ⟨s, _, rfl⟩ := List.mem_map.mp hi
    refine Nat.lt_of_lt_of_le (show (if s = p then (1 : Int) else 0).natAbs < 10 by split <;> decide) (by decide)
  · rw [LF.comp_enc (l := E k) (e := ti) (sItems_l _) (fun s => decide (s.length ≤ p.length)) (fun s => .int (if s = p then 1 else 0)) (fun s hs => by
      simp only [sNil_p, sCons_p, sCallB_p, len_t, List.length_map, sOp_d, sBin_p, pyLe_ii, sBool_p]
      congr 1
      exact decide_eq_decide.mpr (by omega)) (fun s hs => by
      have hq : pyEq (ti s) (ti p) = some (.d (.bool (decide (s = p)))) := pyEq_tt _ _
      have hi : ∀ c : Bool, pyInt [.bool c] = some (.d (.int (if c then 1 else 0))) := fun c => by cases c <;> rfl
      simp only [sBin_p, hq, sOp_d, sNil_p, sCons_p, sCallB_p, hi]
      by_cases h : s = p
      · simp [h]
      · simp [h]) (by omega), hf, List.map_map]
    rfl
  · have he : Es [((p, 1) : Pr)] := ⟨fun q hq => by rw [List.mem_singleton.mp hq]; exact p4, fun q hq => by
      rw [List.mem_singleton.mp hq]
      have h1 := bn_le (show 0 ≤ 35 by omega)
      have h2 : 1 ≤ bn 0 := by rw [bn_0]; decide
      show (1 : Int).natAbs ≤ bn 35
      omega, by simp⟩
    have e1 : (sTup (sCons (sTup (sCons (pure (ti p)) (sCons (pure (.int 1)) sNil))) sNil)) = (pure (fmD [(p, 1)]) : S PyData) := rfl
    rw [e1, pure_bind]
    simp only [sNil_p, sCons_p, sCallB_p, len_t, List.length_map, sOp_d, pure_bind]
    rw [b_tab, table_of_eq (k := p.length) (by omega) he, List.map_map]
    congr 2
    refine List.map_congr_left fun s hs => ?_
    show PyData.int (wo s [(p, 1)]) = .int (if s = p then 1 else 0)
    obtain ⟨s4, sk⟩ : s ∈ E 4 ∧ s.length ≤ p.length := e_sub ⟨p.length, by omega⟩ s hs
    have hw : wo s [(p, 1)] = cnt p s := by
      unfold wo
      rw [W_cons]
      show 1 * cnt p s + 0 = _
      omega
    rw [hw, unit p4 s4 sk]
    by_cases h : p = s
    · rw [if_pos h, if_pos h.symm]
    · rw [if_neg h, if_neg (fun z => h z.symm)]
end LGk30
namespace LGk30
open PySem L2 DL LF LT
theorem e_take : ∀ k : Fin 5, (E k.1).take 2 = if k.1 = 0 then [[]] else [[], [0]] := by decide +kernel
theorem ix_at {ds : List PyData} {n : Nat} {d : PyData} (h : ds[n]? = some d) : pyIx (.tuple ds) (.int (n : Int)) = some (.d d) := by
  simp only [pyIx, atI_nat h, Option.map_some]
theorem get_all {T : List Pr} (hc : Can T) {n : Nat} (hn : n ≤ 2) : (sCompA un1 (pure ((ints0 n).map .int)) (fun q49 => (sGetE (sDictT (sCallB pyListOf (sCons (pure (fmD T)) sNil))) (sRgL .tuple (sRg1 (pure q49))) (pure (.int 0))))) = pure (.list (((ints0 n).map fun i => sumK T (ints0 i.toNat)).map .int)) := by
  rw [LF.compA_enc (l := ints0 n) (e := PyData.int) rfl (fun i => .int (sumK T (ints0 i.toNat))) (fun i hi => by
    have h1 := mem_ints0.mp hi
    have := get_eq hc i.toNat (by omega)
    rw [show ((i.toNat : Nat) : Int) = i by omega] at this
    exact this) (by rw [ints0_length]; omega), List.map_map]
  rfl
theorem ex_two : ∀ zs : List Pr, 2 ≤ zs.length → ∃ z y r, zs = z :: y :: r
  | [], h => by simp at h
  | [_], h => by simp at h
  | z :: y :: r, _ => ⟨z, y, r, rfl⟩
theorem zip2 (f : List Int → Int) : ∀ zs : List Pr, zipped ((zs.map (·.2)).map .int) ((((zs.map (·.1)).map fun s => (s, f s)).map (·.2)).map .int) = zs.map fun z => PyData.tuple [.int z.2, .int (f z.1)]
  | [] => rfl
  | z :: zs => by
    show PyData.tuple [.int z.2, .int (f z.1)] :: zipped _ _ = _
    rw [List.map_cons, zip2 f zs]
theorem ahead_eq {k : Nat} {zs : List Pr} (h : Nm k zs) : ∃ as : List Int, as.length ≤ 2 ∧
    (sIf (sBool (sBin pyGt (pure (.int (k : Int))) (pure (.int 0)))) (sLst (sCons (sBin pyIx (pure (.tuple ((zs.map (·.2)).map .int))) (pure (.int 0))) (sCons (sBin pySub (sBin pyIx (pure (.tuple ((zs.map (·.2)).map .int))) (pure (.int 1))) (sBin pyIx (pure (.tuple ((zs.map (·.2)).map .int))) (pure (.int 0)))) sNil))) (sLst (sCons (sBin pyIx (pure (.tuple ((zs.map (·.2)).map .int))) (pure (.int 0))) sNil))) = (pure (.list (as.map .int)) : S PyData) ∧
    (sCompA un1 (sRange1 (sCallB DL.pyLen (sCons (pure (.list (as.map .int))) sNil))) (fun q49 => (sGetE (sDictT (sCallB pyListOf (sCons (pure (fmD (formOf (sol zs [])))) sNil))) (sRgL .tuple (sRg1 (pure q49))) (pure (.int 0))))) = pure (.list (as.map .int)) := by
  have hk := h.kk
  have ht : (E k).take 2 = if k = 0 then [[]] else [[], [0]] := e_take ⟨k, by omega⟩
  have hc := formOf_can (sol zs [])
  have he := t_es h
  have hw := fun z hz => nm_wo h z hz
  rw [← h.m] at ht
  by_cases k0 : k = 0
  · rw [if_pos k0] at ht
    have h1 : zs.length = 1 := by
      have e := congrArg List.length h.m
      rw [List.length_map] at e
      subst k0
      exact e.trans (by decide)
    obtain ⟨z, rfl⟩ : ∃ z, zs = [z] := List.length_eq_one_iff.mp h1
    have z1 : z.1 = [] := by
      have : [z.1] = [[]] := ht
      injection this
    have s0 : sumK (formOf (sol [z] [])) [] = z.2 := by
      rw [sum_0 he.m, ← z1, wo_form, hw z (by simp)]
    refine ⟨[z.2], by simp, ?_, ?_⟩
    · subst k0
      have e1 : pyIx (.tuple (([z].map (·.2)).map .int)) (.int 0) = some (.d (.int z.2)) := ix_at (n := 0) rfl
      simp only [sBin_p, pyGt_ii, sOp_d, sBool_p, show decide ((0 : Int) < ((0 : Nat) : Int)) = false by decide, sIf_p, Bool.false_eq_true, if_false, e1, sNil_p, sCons_p, sLst_p, sSz_1]
      rfl
    · have e2 : sRange1 (sCallB DL.pyLen (sCons (pure (.list ([z.2].map .int))) sNil)) = (pure ((ints0 1).map .int) : S (List PyData)) := rfl
      rw [e2, get_all hc (by omega)]
      show pure (PyData.list ([sumK (formOf (sol [z] [])) []].map .int)) = _
      rw [s0]
  · rw [if_neg k0] at ht
    obtain ⟨z, y, r, rfl⟩ : ∃ z y r, zs = z :: y :: r := ex_two zs (by
      have := congrArg List.length ht
      rw [List.length_take, List.length_map] at this
      simp at this
      omega)
    have zz : z.1 = [] ∧ y.1 = [0] := by
      have : [z.1, y.1] = [[], [0]] := ht
      injection this with a b
      injection b with b
      exact ⟨a, b⟩
    have s0 : sumK (formOf (sol (z :: y :: r) [])) [] = z.2 := by
      rw [sum_0 he.m, ← zz.1, wo_form, hw z (by simp)]
    have s1 : sumK (formOf (sol (z :: y :: r) [])) [0] = y.2 - z.2 := by
      have := sum_1 he.m
      rw [← zz.2, wo_form, hw y (by simp), s0, zz.2] at this
      omega
    refine ⟨[z.2, y.2 - z.2], by simp, ?_, ?_⟩
    · have e1 : pyIx (.tuple (((z :: y :: r).map (·.2)).map .int)) (.int 0) = some (.d (.int z.2)) := ix_at (n := 0) rfl
      have e2 : pyIx (.tuple (((z :: y :: r).map (·.2)).map .int)) (.int 1) = some (.d (.int y.2)) := ix_at (n := 1) rfl
      simp only [sBin_p, pyGt_ii, sOp_d, sBool_p, decide_eq_true (show (0 : Int) < (k : Int) by omega), sIf_p, if_true, e1, e2, pySub_ii, sNil_p, sCons_p, sLst_p, sSz_2]
      rfl
    · have e2 : sRange1 (sCallB DL.pyLen (sCons (pure (.list ([z.2, y.2 - z.2].map .int))) sNil)) = (pure ((ints0 2).map .int) : S (List PyData)) := rfl
      rw [e2, get_all hc (by omega)]
      show pure (PyData.list ([sumK (formOf (sol (z :: y :: r) [])) [], sumK (formOf (sol (z :: y :: r) [])) [0]].map .int)) = _
      rw [s0, s1]
theorem lap_ok {j : Int} (hj : j = 0 ∨ j = 1) : Tot (tlb_law_1 () (.int j)) fun o => ∃ w, o = .nxt w ∧ True := by
  unfold tlb_law_1
  refine Tot.bind (tot_k hj) fun x ⟨k, e, hk⟩ => ?_
  subst e
  have hE : (E k).length ≤ 34 := (e_nodup ⟨k, by omega⟩).2.1
  have hE0 : 0 < (E k).length := (e_nodup ⟨k, by omega⟩).2.2
  have e6 : ((pure (.int (k : Int))) >>= fun y5 => t__law_little y5) = (pure (.list ((E k).map ti)) : S PyData) := by rw [pure_bind, b_little, law_little_eq hk]
  rw [e6, pure_bind]
  refine Tot.bind (tot_nums hk) fun x ⟨zs, e, hn, hb⟩ => ?_
  subst e
  have hzl := nm_len hn
  have rN : Rk 2 7000 (.tuple ((zs.map (·.2)).map .int)) := ints_rk (by rw [List.length_map]; omega) fun i hi => by
    obtain ⟨z, hz, rfl⟩ := List.mem_map.mp hi
    exact small_i (hn.c z hz)
  obtain ⟨z, rz⟩ := rep_ok rN (by omega) (by omega)
  have hT := t_es hn
  have e12 : ((sCons ((pure (.list ((E k).map ti))) >>= fun y10 => ((pure (.tuple ((zs.map (·.2)).map .int))) >>= fun y11 => t__law_told y10 y11)) (sCons (sRepr (pure (.tuple ((zs.map (·.2)).map .int)))) sNil)) >>= fun xs => S.opt (two xs)) = (pure (fmD (formOf (sol zs [])), .str z) : S (PyData × PyData)) := by
    simp only [pure_bind, b_told, law_told_eq hn, sRepr_p, rz, sOp_d, sNil_p, sCons_p, two_p, opt_some]
  have e15 : ((pure (.int (k : Int))) >>= fun y13 => ((sCallB pyListOf (sCons (pure (.tuple ((zs.map (·.2)).map .int))) sNil)) >>= fun y14 => t_form_of_table y13 y14)) = (pure (fmD (formOf (sol zs []))) : S PyData) := by
    simp only [pure_bind, sNil_p, sCons_p, sCallB_p, listOf_t, sOp_fr, b_fot, form_of_table_l hn]
  rw [e12, pure_bind, e15, pure_bind]
  dsimp only
  have rT := fm_rk hT
  have r2 : Rk 5 400000 (.list [fmD (formOf (sol zs [])), fmD (formOf (sol zs []))]) := (Rk.lst (d := 4) (b := 160000) (n := 2) (fun d hd => by
    simp only [List.mem_cons, List.not_mem_nil, or_false] at hd
    rcases hd with rfl | rfl <;> exact rT) (by simp)).mono (by omega) (by omega)
  refine tot_no ?_ ?_
  · rw [same_rep (x := .list [fmD (formOf (sol zs [])), fmD (formOf (sol zs []))]) (by simp only [pure_bind, b_fot, form_of_table_t hn, sNil_p, sCons_p, sLst_p, sSz_2]) (by simp only [sNil_p, sCons_p, sLst_p, sSz_2]) r2 (by omega) (by omega)]
    simp only [pure_bind, b_isf, t_isform hn, sBin_p, show pyIs true (.bool true) (.bool true) = some (.d (.bool false)) from rfl, sOp_d, sBool_p, sOrT_p, Bool.false_eq_true, if_false]
  refine tot_no ?_ ?_
  · rw [same_rep (x := .tuple ((zs.map (·.2)).map .int)) (by rw [pure_bind, pure_bind, b_tab, table_of_eq hk hT, tab_eq hn]) rfl rN (by omega) (by omega)]
    have hs := size_t hn
    have e1 : t_form_size (fmD (formOf (sol zs []))) = pure (.int (sizeF (formOf (sol zs [])))) := t_form_size_eq (by have := hT.l; omega)
    simp only [pure_bind, e1, sBin_p, pyGt_ii, sOp_d, sBool_p, decide_eq_false (show ¬ (k : Int) < sizeF (formOf (sol zs [])) by omega), sRepr_p, rz, ne_str_self, sOrT_p, Bool.false_eq_true, if_false]
  have hzip : sZipM (pure (.list ((E k).map ti))) (pure (.tuple ((zs.map (·.2)).map .int))) = (pure (zs.map LF.prD) : S (List PyData)) := by rw [← zipped_nm hn]; rfl
  refine tot_no ?_ ?_
  · rw [comp2 hzip (fun _ => false) (fun p => ti p.1) (fun p hp => by
      have hw : wo p.1 (formOf (sol zs [])) = p.2 := by rw [wo_form]; exact nm_wo hn p hp
      simp only [pure_bind, b_lfw, law_worth hT (nm_e4 hn p hp), sBin_p, pyNe_ii, sOp_d, sBool_p, hw]
      simp) (fun p hp => rfl) (by omega)]
    rw [show zs.filter (fun _ => false) = [] from List.filter_eq_nil_iff.mpr fun _ _ => by simp]
    simp only [List.map_nil, sNil_p, sLst_p, sSz_nil, sBin_p, pyNe_l0, sOp_d, sBool_p]
    rfl
  refine Tot.bind (R := fun x => ∃ F, x = fmD F ∧ Can F ∧ (∀ p ∈ F, p.1 ∈ E k) ∧ (∀ p ∈ F, p.2.natAbs ≤ 4 * b30) ∧ F.length ≤ 4) (by rw [pure_bind, pure_bind]; exact tot_form hk) fun x ⟨F, e, hc, hF⟩ => ?_
  subst e
  have hFe := f_es hk hF
  obtain ⟨n2, back⟩ := back_eq hk hc hF
  obtain ⟨n3, both⟩ := both_eq hn hb hF
  have e31 : sCompA un1 (sItems (pure (.list ((E k).map ti)))) (fun q28 => ((pure (fmD F)) >>= fun y29 => ((pure q28) >>= fun y30 => t__law_form_worth y29 y30))) = (pure (.list ((((E k).map fun s => (s, wo s F)).map (·.2)).map .int)) : S PyData) := by
    rw [LF.compA_enc (l := E k) (e := ti) (sItems_l _) (fun s => .int (wo s F)) (fun s hs => by simp only [pure_bind, b_lfw, law_worth hFe (e_sub ⟨k, by omega⟩ s hs).1]) (by omega), List.map_map, List.map_map]
    rfl
  rw [e31, pure_bind]
  have rW : Rk 2 7000 (.tuple ((((E k).map fun s => (s, wo s F)).map (·.2)).map .int)) := ints_rk (by simp; omega) fun i hi => by
    obtain ⟨z, hz, rfl⟩ := List.mem_map.mp hi
    exact small_i (n2.c z hz)
  refine tot_no ?_ ?_
  · rw [same_rep (x := .tuple ((((E k).map fun s => (s, wo s F)).map (·.2)).map .int)) (by rw [pure_bind, pure_bind, b_tab, table_of_eq hk hFe, List.map_map, List.map_map]; rfl) (by simp only [sNil_p, sCons_p, sCallB_p, tupOf_l, sOp_d]) rW (by omega) (by omega)]
    rw [same_rep (x := fmD F) (by rw [pure_bind, pure_bind, b_fot, form_of_table_l n2, back]) rfl (fm_rk hFe) (by omega) (by omega)]
    rfl
  have e37 : sCompA un2 (sZipM (pure (.tuple ((zs.map (·.2)).map .int))) (pure (.list ((((E k).map fun s => (s, wo s F)).map (·.2)).map .int)))) (fun q36 => (sBin pyAdd (pure q36.1) (pure q36.2))) = (pure (.list (((zs.map fun z => (z.1, z.2 + wo z.1 F)).map (·.2)).map .int)) : S PyData) := by
    have hx : sZipM (pure (.tuple ((zs.map (·.2)).map .int))) (pure (.list ((((E k).map fun s => (s, wo s F)).map (·.2)).map .int))) = (pure (zs.map fun z => PyData.tuple [.int z.2, .int (wo z.1 F)]) : S (List PyData)) := by
      have : zipped ((zs.map (·.2)).map .int) ((((E k).map fun s => (s, wo s F)).map (·.2)).map .int) = zs.map fun z => PyData.tuple [.int z.2, .int (wo z.1 F)] := by
        rw [← hn.m]
        exact zip2 (fun s => wo s F) zs
      rw [← this]; rfl
    rw [compA2 (f := fun z : Pr => .int z.2) (g := fun z : Pr => .int (wo z.1 F)) (fun _ => rfl) hx (fun z => .int (z.2 + wo z.1 F)) (fun z _ => by simp only [sBin_p, pyAdd_ii, sOp_d]) (by omega), List.map_map, List.map_map]
    rfl
  rw [e37, pure_bind]
  refine tot_no ?_ ?_
  · refine same_rep (x := fmD (formOf (formOf (sol zs []) ++ F))) (by rw [pure_bind, pure_bind, b_fot, form_of_table_l n3, both]) (by rw [pure_bind, pure_bind, b_sum, t_form_sum_eq (by have := hT.l; have := hF.2.2; omega)]) (d := 4) (n := 160000) ?_ (by omega) (by omega)
    rw [← both]
    exact fm_rk (t_es n3)
  rw [pure_bind]
  refine Tot.bind (tot_of (ds := (E k).map ti) (by rw [List.length_map]; exact hE0) (by rw [List.length_map]; omega)) fun x hx => ?_
  obtain ⟨p, hp, rfl⟩ := List.mem_map.mp hx
  obtain ⟨l, l1, l2, l3, l4⟩ := line_eq hk hp
  rw [l3, pure_bind]
  refine tot_no (same_rep l4 (by simp only [sNil_p, sCons_p, sCallB_p, tupOf_l, sOp_d]) (ints_rk l1 l2) (by omega) (by omega)) ?_
  obtain ⟨as, a1, a2, a3⟩ := ahead_eq hn
  rw [a2, pure_bind]
  refine tot_no ?_ (Tot.pure ⟨_, rfl, trivial⟩)
  rw [a3, sBin_p, pyNe_lis, sOp_d, sBool_p]
  simp
end LGk30
namespace LGk30
open PySem L2 DL LF LT
def z4 : List Pr := [([], 0), ([0], 1), ([0, 1], 4), ([1, 0], 4)]
def g3 : List Pr := [([0], 1), ([0, 1], 2), ([1, 0], 2)]
def woL (s : List Int) (F : List Pr) : Int := W (fun p => (cntL p s : Int)) F
theorem wo_L {s : List Int} (hs : s ∈ E 4) : ∀ {F : List Pr}, (∀ p ∈ F, p.1 ∈ E 4) → wo s F = woL s F
  | [], _ => rfl
  | p :: F, h => by
    have ih := wo_L hs (F := F) fun q hq => h q (List.mem_cons_of_mem _ hq)
    obtain ⟨a1, _⟩ := e4_facts.2 _ (h p (by simp))
    obtain ⟨b1, b2, _⟩ := e4_facts.2 _ hs
    unfold wo woL at ih ⊢
    rw [W_cons, W_cons, ih]
    show p.2 * cnt p.1 s + _ = p.2 * (cntL p.1 s : Int) + _
    rw [cnt_eq (by omega) (by omega) b2]
theorem nm4 : Nm 2 z4 := ⟨by omega, by decide, fun z hz => by
  have h1 : 100 ≤ bn 0 := by rw [bn_0]; decide
  have h2 : ∀ z ∈ z4, z.2.natAbs ≤ 100 := by decide
  exact Nat.le_trans (h2 z hz) h1⟩
theorem g3_e : (∀ p ∈ g3, p.1 ∈ E 2) ∧ (∀ z ∈ z4, woL z.1 g3 = z.2) := by decide +kernel
theorem g3_can : Can g3 := ⟨by decide, by decide⟩
theorem g3_eq : formOf (sol z4 []) = g3 := by
  have hk : ∀ s ∈ E 2, s ∈ E 4 := fun s hs => (e_sub ⟨2, by omega⟩ s hs).1
  rw [uniq (ks := E 2) hk (a := sol z4 []) (b := g3) (fun p hp => by rw [← nm_keys nm4]; exact List.mem_map.mpr ⟨p, hp, rfl⟩) g3_e.1 fun s hs => ?_, formOf_self g3_can]
  rw [← nm4.m] at hs
  obtain ⟨z, hz, rfl⟩ := List.mem_map.mp hs
  rw [nm_wo nm4 z hz, wo_L (nm_e4 nm4 z hz) fun p hp => hk _ (g3_e.1 p hp), g3_e.2 z hz]
theorem cm_g3 : Cm 3 (fmD g3) := Cm.tup fun d hd => by
  obtain ⟨p, _, rfl⟩ := List.mem_map.mp hd
  refine Cm.tup fun d hd => ?_
  simp only [List.mem_cons, List.not_mem_nil, or_false] at hd
  rcases hd with rfl | rfl
  · refine Cm.tup fun d hd => ?_
    obtain ⟨i, _, rfl⟩ := List.mem_map.mp hd
    exact Cm.int i
  · exact (Cm.int _).up (by omega)
theorem last_ok : (sBin pyEq ((pure (.int 2)) >>= fun y53 => ((sTup (sCons (pure (.int 0)) (sCons (pure (.int 1)) (sCons (pure (.int 4)) (sCons (pure (.int 4)) sNil))))) >>= fun y54 => t_form_of_table y53 y54)) (sTup (sCons (sTup (sCons (sTup (sCons (pure (.int 0)) sNil)) (sCons (pure (.int 1)) sNil))) (sCons (sTup (sCons (sTup (sCons (pure (.int 0)) (sCons (pure (.int 1)) sNil))) (sCons (pure (.int 2)) sNil))) (sCons (sTup (sCons (sTup (sCons (pure (.int 1)) (sCons (pure (.int 0)) sNil))) (sCons (pure (.int 2)) sNil))) sNil))))) = (pure (.bool true) : S PyData) := by
  have e1 : (sTup (sCons (pure (.int 0)) (sCons (pure (.int 1)) (sCons (pure (.int 4)) (sCons (pure (.int 4)) sNil))))) = (pure (.tuple ((z4.map (·.2)).map .int)) : S PyData) := rfl
  have e2 : (sTup (sCons (sTup (sCons (sTup (sCons (pure (.int 0)) sNil)) (sCons (pure (.int 1)) sNil))) (sCons (sTup (sCons (sTup (sCons (pure (.int 0)) (sCons (pure (.int 1)) sNil))) (sCons (pure (.int 2)) sNil))) (sCons (sTup (sCons (sTup (sCons (pure (.int 1)) (sCons (pure (.int 0)) sNil))) (sCons (pure (.int 2)) sNil))) sNil)))) = (pure (fmD g3) : S PyData) := rfl
  have h1 : t_form_of_table (.int 2) (.tuple ((z4.map (·.2)).map .int)) = pure (fmD g3) := by
    have := form_of_table_t nm4
    rw [g3_eq] at this
    exact this
  have h2 : pyEq (fmD g3) (fmD g3) = some (.d (.bool true)) := eq_cmp cm_g3 cm_g3 ⟨fun _ => rfl, fun _ => rfl⟩
  rw [e1, e2, pure_bind, pure_bind, h1, sBin_p, h2, sOp_d]
theorem law_holds (ns : List Int) (h : ns.length ≤ 63) (hb : ∀ z ∈ ns, Builtin.Int.intBits z ≤ 1048576) : WpF (fm_law [.scr ns] none) fun ev _ => ev = .d (.bool true) := by
  refine law_of_T (tf_law ns) ?_
  obtain ⟨g1, h1, l1⟩ := tot_src h
  have main : Tot (((sRange1 (pure (.int 2))) >>= fun xs_ => forO (κ := Empty) (fun w_ x_ => S.opt (un1 x_) >>= tlb_law_1 w_) xs_ ()) >>= outR fun v52 => (sBin pyEq ((pure (.int 2)) >>= fun y53 => ((sTup (sCons (pure (.int 0)) (sCons (pure (.int 1)) (sCons (pure (.int 4)) (sCons (pure (.int 4)) sNil))))) >>= fun y54 => t_form_of_table y53 y54)) (sTup (sCons (sTup (sCons (sTup (sCons (pure (.int 0)) sNil)) (sCons (pure (.int 1)) sNil))) (sCons (sTup (sCons (sTup (sCons (pure (.int 0)) (sCons (pure (.int 1)) sNil))) (sCons (pure (.int 2)) sNil))) (sCons (sTup (sCons (sTup (sCons (pure (.int 1)) (sCons (pure (.int 0)) sNil))) (sCons (pure (.int 2)) sNil))) sNil)))))) fun x => x = .bool true := by
    rw [show sRange1 (pure (.int 2)) = pure ((ints0 2).map .int) from rfl, pure_bind, forO_map]
    refine Tot.bind (Tot.forO (fun _ => True) trivial fun x hx v _ => by
      rw [un1_p, opt_some, pure_bind]
      have hx := mem_ints0.mp hx
      exact lap_ok (by omega)) fun o ⟨w, e, _⟩ => ?_
    subst e
    refine Tot.eq (m' := pure (.bool true)) (Tot.pure rfl) ?_
    exact last_ok
  obtain ⟨x, g2, h2, _, e⟩ := main g1 l1
  subst e
  refine ⟨g2, ?_⟩
  unfold t_law
  rw [S.bind_def, h1]
  exact h2
end LGk30
open PySem PySem.W PyProof.Rows
set_option maxHeartbeats 0 in
theorem PySem.Challenge.cw_littleorders_k30_whole_tables_told_back_holds : PySem.Challenge.rw_littleorders_k30_whole_tables_told_back.Holds := by
  w_on; o_law; k_head; (case hw => w_witness2)
  k_fill
  refine DL.walk_ofD (l := PySem.Challenge.rw_littleorders_k30_whole_tables_told_back) (n := 63) (k := 6) (x := "script") (fm := LGk30.fm_law) rfl (by decide) rfl ⟨rfl, by decide, by decide⟩ (by decide +kernel) (fun w h Y => PySem.W.kIn_of Y) ?F LGk30.law_holds
  case F =>
    intro w mg fa h KX G hmg
    refine' LGk30.all_mk KX G hmg ?a0 ?l0 ?c0 ?k0 ?a1 ?l1 ?c1 ?k1 ?a2 ?l2 ?c2 ?k2 ?a3 ?l3 ?c3 ?k3 ?a4 ?l4 ?c4 ?k4 ?a5 ?l5 ?c5 ?k5 ?a6 ?l6 ?c6 ?k6 ?a7 ?l7 ?c7 ?k7 ?a8 ?l8 ?c8 ?k8 ?a9 ?l9 ?c9 ?k9 ?a10 ?l10 ?c10 ?k10 ?a11 ?l11 ?c11 ?k11 ?a12 ?l12 ?c12 ?k12 ?a13 ?l13 ?c13 ?k13 ?a14 ?l14 ?c14 ?k14 ?a15 ?l15 ?c15 ?k15 ?a16 ?l16 ?c16 ?k16 ?a17 ?l17 ?c17 ?k17 ?a18 ?l18 ?c18 ?k18 ?a19 ?l19 ?c19 ?k19 ?a20 ?l20 ?c20 ?k20 ?a21 ?l21 ?c21 ?k21 ?a22 ?l22 ?c22 ?k22 ?a23 ?l23 ?c23 ?k23 ?a24 ?l24 ?c24 ?k24 ?a25 ?l25 ?c25 ?k25 ?a26 ?l26 ?c26 ?k26 ?a27 ?l27 ?c27 ?k27 ?a28 ?l28 ?c28 ?k28 ?a29 ?l29 ?c29 ?k29 ?z0 ?z1 ?z2 ?z3 ?z4 ?z5 ?z6 ?z7 ?z8 ?z9 ?z10 ?z11 ?z12 ?z13 ?z14 ?q0_ ?q1_
    (case a0 => k_is)
    (case l0 => k_is)
    (case c0 => k_is)
    (case k0 => k_is)
    (case a1 => k_is)
    (case l1 => k_is)
    (case c1 => k_is)
    (case k1 => k_is)
    (case a2 => k_is)
    (case l2 => k_is)
    (case c2 => k_is)
    (case k2 => k_is)
    (case a3 => k_is)
    (case l3 => k_is)
    (case c3 => k_is)
    (case k3 => k_is)
    (case a4 => k_is)
    (case l4 => k_is)
    (case c4 => k_is)
    (case k4 => k_is)
    (case a5 => k_is)
    (case l5 => k_is)
    (case c5 => k_is)
    (case k5 => k_is)
    (case a6 => k_is)
    (case l6 => k_is)
    (case c6 => k_is)
    (case k6 => k_is)
    (case a7 => k_is)
    (case l7 => k_is)
    (case c7 => k_is)
    (case k7 => k_is)
    (case a8 => k_is)
    (case l8 => k_is)
    (case c8 => k_is)
    (case k8 => k_is)
    (case a9 => k_is)
    (case l9 => k_is)
    (case c9 => k_is)
    (case k9 => k_is)
    (case a10 => k_is)
    (case l10 => k_is)
    (case c10 => k_is)
    (case k10 => k_is)
    (case a11 => k_is)
    (case l11 => k_is)
    (case c11 => k_is)
    (case k11 => k_is)
    (case a12 => k_is)
    (case l12 => k_is)
    (case c12 => k_is)
    (case k12 => k_is)
    (case a13 => k_is)
    (case l13 => k_is)
    (case c13 => k_is)
    (case k13 => k_is)
    (case a14 => k_is)
    (case l14 => k_is)
    (case c14 => k_is)
    (case k14 => k_is)
    (case a15 => k_is)
    (case l15 => k_is)
    (case c15 => k_is)
    (case k15 => k_is)
    (case a16 => k_is)
    (case l16 => k_is)
    (case c16 => k_is)
    (case k16 => k_is)
    (case a17 => k_is)
    (case l17 => k_is)
    (case c17 => k_is)
    (case k17 => k_is)
    (case a18 => k_is)
    (case l18 => k_is)
    (case c18 => k_is)
    (case k18 => k_is)
    (case a19 => k_is)
    (case l19 => k_is)
    (case c19 => k_is)
    (case k19 => k_is)
    (case a20 => k_is)
    (case l20 => k_is)
    (case c20 => k_is)
    (case k20 => k_is)
    (case a21 => k_is)
    (case l21 => k_is)
    (case c21 => k_is)
    (case k21 => k_is)
    (case a22 => k_is)
    (case l22 => k_is)
    (case c22 => k_is)
    (case k22 => k_is)
    (case a23 => k_is)
    (case l23 => k_is)
    (case c23 => k_is)
    (case k23 => k_is)
    (case a24 => k_is)
    (case l24 => k_is)
    (case c24 => k_is)
    (case k24 => k_is)
    (case a25 => k_is)
    (case l25 => k_is)
    (case c25 => k_is)
    (case k25 => k_is)
    (case a26 => k_is)
    (case l26 => k_is)
    (case c26 => k_is)
    (case k26 => k_is)
    (case a27 => k_is)
    (case l27 => k_is)
    (case c27 => k_is)
    (case k27 => k_is)
    (case a28 => k_is)
    (case l28 => k_is)
    (case c28 => k_is)
    (case k28 => k_is)
    (case a29 => k_is)
    (case l29 => k_is)
    (case c29 => k_is)
    (case k29 => k_is)
    (case z0 => k_is)
    (case z1 => k_is)
    (case z2 => k_is)
    (case z3 => k_is)
    (case z4 => k_is)
    (case z5 => k_is)
    (case z6 => k_is)
    (case z7 => k_is)
    (case z8 => k_is)
    (case z9 => k_is)
    (case z10 => k_is)
    (case z11 => k_is)
    (case z12 => k_is)
    (case z13 => k_is)
    (case z14 => k_is)
    (case q0_ => k_is)
    (case q1_ => k_is)
