import PyProof.Rows.All
import Wide.All
import OpenK.AllK
import Wide.FinOn
import HandS.ForMost
import HandS.Exc
import HandS.ExcOwn
import HandS.TryOnly
import HandS.Flow
import HandS.TupAny
import HandS.IsInst
import HandS.CallSlots
import HandS.WordsExc
import HandS.Conv
import KE.KDictPairs
import KE.KDictList
import HandS.Text
import HandS.StrMore
import HandS.Defaults
import HandS.ExcSuper
import KE.KExcSuper
import HandS.TryMany
import KE.KExcIs
import HandS.ExcIs
import HandS.SetFor
import HandS.Small
import HandS.Style
import HandS.Replace
import HandS.ReplaceLit
import HandS.ReplaceDef
import HandS.ReplaceList
import HandS.Codes
import PySem.Challenge.RW_onetongue_k01_whole_expressions_in_brack
set_option Elab.async false
set_option linter.all false
set_option maxRecDepth 100000
set_option maxHeartbeats 4000000
/-! Core1: plain data D, cells, what stands for what; readings that come from plain functions of data. -/
namespace FP
open PySem PySem.Spec L2
open PyProof.Rows hiding St

/-- plain data; ptr k is the k-th cell (a thing that changes) -/
inductive D where
  | non | bl (b : Bool) | int (i : Int) | str (s : Str) | tup (l : List D) | lst (l : List D) | fro (l : List D) | ptu (l : List D) | dic (ks : List Key) (l : List D) | ptr (k : Nat) | exn (a d : Addr) (fs : List Str) (l : List D)
inductive Cell where
  | lst (l : List D)
  | dic (ks : List Key) (l : List D)
  | ins (c : Str) (fs : List Str) (l : List D)
abbrev Mem := List Cell
abbrev Env' := List (Option D)
/-- an exception: its class and its fields -/
structure Exn where
  cls : Str
  fs : List Str
  vs : List D
inductive R (α : Type) where
  | ok (a : α) (μ : Mem)
  | exc (x : Exn) (μ : Mem)
  | stuck
def R.bind {α β : Type} : R α → (α → Mem → R β) → R β
  | .ok a μ, f => f a μ
  | .exc x μ, _ => .exc x μ
  | .stuck, _ => .stuck
@[simp] theorem R.bind_ok {α β : Type} (a : α) (μ : Mem) (f : α → Mem → R β) : (R.ok a μ).bind f = f a μ := (Eq.refl _).trans (Eq.refl _)
@[simp] theorem R.bind_exc {α β : Type} (x : Exn) (μ : Mem) (f : α → Mem → R β) : (R.exc x μ).bind f = .exc x μ := (Eq.refl _).trans (Eq.refl _)
@[simp] theorem R.bind_stuck {α β : Type} (f : α → Mem → R β) : (R.stuck : R α).bind f = .stuck := (Eq.refl _).trans (Eq.refl _)
inductive RS where
  | nx (η : Env') (μ : Mem)
  | rt (d : D) (μ : Mem)
  | bk (η : Env') (μ : Mem)
  | ct (η : Env') (μ : Mem)
  | exc (x : Exn) (η : Env') (μ : Mem)
  | stuck

/-- a list that nobody changes: frozen, or an object of the module -/
def FzL (K : PySem.W.Frag) (H : Hp) (a : Addr) (xs : List V) : Prop :=
  (∃ o, H a = some (.frz o (.lst xs))) ∨
    ∃ (o : Obj) (its : Array Value) (n : Nat), K.lookup a = some o ∧ o.cls = .type "list" ∧ o.dict = none ∧ o.data = .seq its n ∧ its.size ≤ sizeLine ∧ Vals xs its.toList
theorem FzL.seq {K : PySem.W.Frag} {H : Hp} {a : Addr} {xs : List V} (h : FzL K H a xs) : SqL K H a xs := h.imp (fun z => .inr z) id
section
variable (K : PySem.W.Frag) (φ ψ : List Addr) (H : Hp)
mutual
/-- a value stands for data: φ the cells, ψ other addresses that no inner list has -/
def Rp : D → V → Prop
  | .non, v => v = .non
  | .bl b, v => v = .bl b
  | .int i, v => v = .int i
  | .str s, v => v = .str s
  | .tup ds, v => ∃ a xs, v = .ref a ∧ SqT K H a xs ∧ RpL ds xs
  | .lst ds, v => ∃ a xs, v = .ref a ∧ (a ∉ φ ∧ a ∉ ψ) ∧ H a = some (.lst xs) ∧ RpL ds xs
  | .fro ds, v => ∃ a xs, v = .ref a ∧ FzL K H a xs ∧ RpL ds xs
  | .ptu ds, v => ∃ a xs, v = .ref a ∧ (∃ o, H a = some (.frz o (.tup xs)) ∧ o.dict = none) ∧ RpL ds xs
  | .dic ks ds, v => ∃ a xs, v = .ref a ∧ (a ∉ φ ∧ a ∉ ψ) ∧ H a = some (.dK (ks.zip xs)) ∧ ks.length = ds.length ∧ RpL ds xs
  | .ptr k, v => ∃ a, φ[k]? = some a ∧ v = .ref a
  | .exn a d fs ds, v => v = .ref a ∧ fs.length = ds.length ∧ ∃ xs, H d = some (.xd (fs.zip xs)) ∧ RpL ds xs
def RpL : List D → List V → Prop
  | [], xs => xs = []
  | d :: ds, xs => ∃ x r, xs = x :: r ∧ Rp d x ∧ RpL ds r
end
end

/-- the heap grew: A may change, A' may change then -/
structure Gr (A : List Addr) (H : Hp) (A' : List Addr) (H' : Hp) : Prop where
  pre : ∀ a ∈ A', a ∈ A ∨ H a = none
  keep : ∀ a o, (a ∈ A → ¬ Mut (some o)) → H a = some o → H' a = some o
  there : ∀ a o, H a = some o → ∃ o', H' a = some o'
theorem Gr.refl {A : List Addr} {H : Hp} : Gr A H A H := ⟨fun _ h => .inl h, fun _ _ _ h => h, fun _ o h => ⟨o, h⟩⟩
theorem Gr.trans {A A1 A2 : List Addr} {H H1 H2 : Hp} (g : Gr A H A1 H1) (h : Gr A1 H1 A2 H2) : Gr A H A2 H2 := by
  refine ⟨fun a ha => ?_, fun a o hm e => ?_, fun a o e => ?_⟩
  · rcases h.pre a ha with q | q
    · exact g.pre a q
    · refine .inr ?_
      cases e : H a with
      | none => rfl
      | some o =>
        obtain ⟨o', e'⟩ := g.there a o e
        rw [q] at e'; cases e'
  · refine h.keep a o (fun ha => ?_) (g.keep a o hm e)
    rcases g.pre a ha with q | q
    · exact hm q
    · rw [q] at e; cases e
  · obtain ⟨o', e'⟩ := g.there a o e
    exact h.there a o' e'
theorem Gr.tup {A A' : List Addr} {H H' : Hp} (g : Gr A H A' H') {K : PySem.W.Frag} {a : Addr} {xs : List V} (h : SqT K H a xs) : SqT K H' a xs := by
  rcases h with (h | ⟨o, h⟩) | h
  · exact .inl (.inl (g.keep a _ (fun _ z => z) h))
  · exact .inl (.inr ⟨o, g.keep a _ (fun _ z => z) h⟩)
  · exact .inr h
theorem Gr.fz {A A' : List Addr} {H H' : Hp} (g : Gr A H A' H') {K : PySem.W.Frag} {a : Addr} {xs : List V} (h : FzL K H a xs) : FzL K H' a xs := by
  rcases h with ⟨o, h⟩ | h
  · exact .inl ⟨o, g.keep a _ (fun _ z => z) h⟩
  · exact .inr h
theorem Gr.rd {A A' : List Addr} {H H' : Hp} (g : Gr A H A' H') {a : Addr} {u : HO} (n : a ∉ A) (h : Rd H a u) : Rd H' a u := by
  rcases h with h | ⟨o, h⟩
  · exact .inl (g.keep a _ (fun z => absurd z n) h)
  · exact .inr ⟨o, g.keep a _ (fun z => absurd z n) h⟩
theorem rd_some {H : Hp} {a : Addr} {u : HO} (h : Rd H a u) : ∃ o, H a = some o := by
  rcases h with h | ⟨o, h⟩ <;> exact ⟨_, h⟩
theorem Gr.not_mem {A A' : List Addr} {H H' : Hp} (g : Gr A H A' H') {a : Addr} {o : HO} (n : a ∉ A) (h : H a = some o) : a ∉ A' := fun z => by
  rcases g.pre a z with q | q
  · exact n q
  · rw [q] at h; cases h
/-- nothing tracked changes: a new object -/
theorem Gr.new {A : List Addr} {H : Hp} {p : Addr} {o : HO} (h : H p = none) : Gr A H A (upd H p o) := by
  refine ⟨fun _ h => .inl h, fun a u _ e => ?_, fun a u e => ⟨u, ?_⟩⟩ <;> (rw [upd_ne (ne_of_none e h)]; exact e)
/-- a new object that may change -/
theorem Gr.newC {A : List Addr} {H : Hp} {p : Addr} {o : HO} (h : H p = none) : Gr A H (A ++ [p]) (upd H p o) := by
  refine ⟨fun a ha => ?_, fun a u _ e => ?_, fun a u e => ⟨u, ?_⟩⟩
  · rcases List.mem_append.mp ha with q | q
    · exact .inl q
    · have e : a = p := by simpa using q
      exact .inr (e ▸ h)
  all_goals (rw [upd_ne (ne_of_none e h)]; exact e)
/-- what may change changes -/
theorem Gr.mut {A : List Addr} {H : Hp} {p : Addr} {o u : HO} (hp : p ∈ A) (h : H p = some o) (m : Mut (some o)) : Gr A H A (upd H p u) := by
  refine ⟨fun _ h => .inl h, fun a v hm e => ?_, fun a v e => ?_⟩
  · by_cases q : a = p
    · subst q
      rw [h] at e; cases e
      exact absurd m (hm hp)
    · rw [upd_ne q]; exact e
  · by_cases q : a = p
    · subst q; exact ⟨u, upd_same⟩
    · exact ⟨v, by rw [upd_ne q]; exact e⟩
theorem Gr.sub {A B A' : List Addr} {H H' : Hp} (g : Gr A H A' H') (h : ∀ a ∈ A, a ∈ B) : Gr B H A' H' :=
  ⟨fun a z => (g.pre a z).imp_left (h a), fun a o hm e => g.keep a o (fun z => hm (h a z)) e, g.there⟩
theorem Gr.sub' {A B A' : List Addr} {H H' : Hp} (g : Gr A H A' H') (h : ∀ a ∈ B, a ∈ A') : Gr A H B H' :=
  ⟨fun a z => g.pre a (h a z), g.keep, g.there⟩
theorem Gr.weak {A B B' A' : List Addr} {H H' : Hp} (g : Gr A H A' H') (h : ∀ a ∈ A, a ∈ B) (h' : ∀ a ∈ B', a ∈ A') : Gr B H B' H' := (g.sub h).sub' h'

section
variable {K : PySem.W.Frag} {φ ψ φ' ψ' A A' : List Addr} {H H' : Hp}
mutual
theorem Rp.mono (g : Gr A H A' H') (hA : ∀ a, a ∉ φ → a ∉ ψ → a ∉ A) (hA' : ∀ a, a ∈ φ' ∨ a ∈ ψ' → (a ∈ φ ∨ a ∈ ψ) ∨ H a = none) (hp : ∀ (k : Nat) (a : Addr), φ[k]? = some a → φ'[k]? = some a) :
    ∀ {d : D} {v : V}, Rp K φ ψ H d v → Rp K φ' ψ' H' d v
  | .non, _, h => h
  | .bl _, _, h => h
  | .int _, _, h => h
  | .str _, _, h => h
  | .tup ds, _, h => by
    obtain ⟨a, xs, e, h, r⟩ := h
    exact ⟨a, xs, e, g.tup h, RpL.mono g hA hA' hp r⟩
  | .lst ds, _, h => by
    obtain ⟨a, xs, e, ⟨n1, n2⟩, h, r⟩ := h
    have nn : a ∉ A := hA a n1 n2
    refine ⟨a, xs, e, ?_, g.keep a _ (fun z => absurd z nn) h, RpL.mono g hA hA' hp r⟩
    have ho := h
    constructor
    · intro z
      rcases hA' a (.inl z) with (q | q) | q
      · exact n1 q
      · exact n2 q
      · rw [q] at ho; cases ho
    · intro z
      rcases hA' a (.inr z) with (q | q) | q
      · exact n1 q
      · exact n2 q
      · rw [q] at ho; cases ho
  | .fro ds, _, h => by
    obtain ⟨a, xs, e, h, r⟩ := h
    exact ⟨a, xs, e, g.fz h, RpL.mono g hA hA' hp r⟩
  | .ptu ds, _, h => by
    obtain ⟨a, xs, e, ⟨o, h, hd⟩, r⟩ := h
    exact ⟨a, xs, e, ⟨o, g.keep a _ (fun _ z => z) h, hd⟩, RpL.mono g hA hA' hp r⟩
  | .dic ks ds, _, h => by
    obtain ⟨a, xs, e, ⟨n1, n2⟩, h, hl, r⟩ := h
    have nn : a ∉ A := hA a n1 n2
    refine ⟨a, xs, e, ?_, g.keep a _ (fun z => absurd z nn) h, hl, RpL.mono g hA hA' hp r⟩
    constructor
    · intro z
      rcases hA' a (.inl z) with (q | q) | q
      · exact n1 q
      · exact n2 q
      · rw [q] at h; cases h
    · intro z
      rcases hA' a (.inr z) with (q | q) | q
      · exact n1 q
      · exact n2 q
      · rw [q] at h; cases h
  | .ptr k, _, h => by
    obtain ⟨a, e, q⟩ := h
    exact ⟨a, hp k a e, q⟩
  | .exn a d fs ds, _, h => by
    obtain ⟨e, hl, xs, h, r⟩ := h
    exact ⟨e, hl, xs, g.keep d _ (fun _ z => z) h, RpL.mono g hA hA' hp r⟩
theorem RpL.mono (g : Gr A H A' H') (hA : ∀ a, a ∉ φ → a ∉ ψ → a ∉ A) (hA' : ∀ a, a ∈ φ' ∨ a ∈ ψ' → (a ∈ φ ∨ a ∈ ψ) ∨ H a = none) (hp : ∀ (k : Nat) (a : Addr), φ[k]? = some a → φ'[k]? = some a) :
    ∀ {ds : List D} {xs : List V}, RpL K φ ψ H ds xs → RpL K φ' ψ' H' ds xs
  | [], _, h => h
  | d :: ds, _, h => by
    obtain ⟨x, r, e, h1, h2⟩ := h
    exact ⟨x, r, e, Rp.mono g hA hA' hp h1, RpL.mono g hA hA' hp h2⟩
end
end

/-- cells' addresses grow at the end -/
structure Ext (φ φ' : List Addr) : Prop where
  pre : ∃ e, φ' = φ ++ e
theorem Ext.refl {φ : List Addr} : Ext φ φ := ⟨[], by simp⟩
theorem Ext.trans {φ φ1 φ2 : List Addr} (a : Ext φ φ1) (b : Ext φ1 φ2) : Ext φ φ2 := by
  obtain ⟨e, rfl⟩ := a.pre
  obtain ⟨e', rfl⟩ := b.pre
  exact ⟨e ++ e', by simp⟩
theorem Ext.new {φ : List Addr} {p : Addr} : Ext φ (φ ++ [p]) := ⟨[p], rfl⟩
theorem Ext.at {φ φ' : List Addr} (x : Ext φ φ') {k : Nat} {a : Addr} (h : φ[k]? = some a) : φ'[k]? = some a := by
  obtain ⟨e, rfl⟩ := x.pre
  rw [List.getElem?_append_left (List.getElem?_eq_some_iff.mp h).1]; exact h
theorem Ext.mem {φ φ' : List Addr} (x : Ext φ φ') : ∀ a ∈ φ, a ∈ φ' := fun a h => by
  obtain ⟨e, rfl⟩ := x.pre
  exact List.mem_append_left _ h

/-- what an expression, a call leave: cells may change, lists of ψ stand -/
structure Go (φ : List Addr) (H : Hp) (φ' : List Addr) (H' : Hp) : Prop where
  gr : Gr φ H φ' H'
  ext : Ext φ φ'
theorem Go.refl {φ : List Addr} {H : Hp} : Go φ H φ H := ⟨.refl, .refl⟩
theorem Go.trans {φ φ1 φ2 : List Addr} {H H1 H2 : Hp} (a : Go φ H φ1 H1) (b : Go φ1 H1 φ2 H2) : Go φ H φ2 H2 := ⟨a.gr.trans b.gr, a.ext.trans b.ext⟩
theorem Go.new {φ : List Addr} {H : Hp} {p : Addr} {o : HO} (h : H p = none) : Go φ H φ (upd H p o) := ⟨.new h, .refl⟩
section
variable {K : PySem.W.Frag} {φ ψ φ' ψ' : List Addr} {H H' : Hp} {d : D} {v : V} {ds : List D} {xs : List V}
theorem Go.hA' (g : Go φ H φ' H') : ∀ a, a ∈ φ' ∨ a ∈ ψ → (a ∈ φ ∨ a ∈ ψ) ∨ H a = none := fun a z => by
  rcases z with z | z
  · exact (g.gr.pre a z).imp_left .inl
  · exact .inl (.inr z)
theorem Go.rp (g : Go φ H φ' H') (h : Rp K φ ψ H d v) : Rp K φ' ψ H' d v := h.mono g.gr (fun _ h _ => h) g.hA' fun _ _ => g.ext.at
theorem Go.rpL (g : Go φ H φ' H') (h : RpL K φ ψ H ds xs) : RpL K φ' ψ H' ds xs := h.mono g.gr (fun _ h _ => h) g.hA' fun _ _ => g.ext.at
/-- less is asked of inner lists -/
theorem Rp.less (h : Rp K φ ψ H d v) (hs : ∀ a ∈ ψ', a ∈ ψ) : Rp K φ ψ' H d v := h.mono (A := φ) (A' := φ) .refl (fun _ h _ => h) (fun a z => .inl (z.imp_right (hs a))) fun _ _ h => h
theorem RpL.less (h : RpL K φ ψ H ds xs) (hs : ∀ a ∈ ψ', a ∈ ψ) : RpL K φ ψ' H ds xs := h.mono (A := φ) (A' := φ) .refl (fun _ h _ => h) (fun a z => .inl (z.imp_right (hs a))) fun _ _ h => h
theorem Rp.bare (h : Rp K φ ψ H d v) : Rp K φ [] H d v := h.less fun _ z => nomatch z
theorem RpL.bare (h : RpL K φ ψ H ds xs) : RpL K φ [] H ds xs := h.less fun _ z => nomatch z
/-- a new address is none of an inner list's -/
theorem Rp.more {p : Addr} (h : Rp K φ ψ H d v) (hp : H p = none) : Rp K φ (p :: ψ) H d v := h.mono (A := φ) (A' := φ) .refl (fun _ h _ => h) (fun a z => by
  rcases z with z | z
  · exact .inl (.inl z)
  · rcases List.mem_cons.mp z with rfl | z
    · exact .inr hp
    · exact .inl (.inr z)) fun _ _ h => h
theorem RpL.more {p : Addr} (h : RpL K φ ψ H ds xs) (hp : H p = none) : RpL K φ (p :: ψ) H ds xs := h.mono (A := φ) (A' := φ) .refl (fun _ h _ => h) (fun a z => by
  rcases z with z | z
  · exact .inl (.inl z)
  · rcases List.mem_cons.mp z with rfl | z
    · exact .inr hp
    · exact .inl (.inr z)) fun _ _ h => h
end

/-! ### lists of data -/
section
variable {K : PySem.W.Frag} {φ ψ : List Addr} {H : Hp}
theorem RpL.length : ∀ {ds : List D} {xs : List V}, RpL K φ ψ H ds xs → xs.length = ds.length
  | [], _, h => by cases h; rfl
  | d :: ds, _, h => by
    obtain ⟨x, r, rfl, _, h2⟩ := h
    simp [h2.length]
theorem RpL.nil : RpL K φ ψ H [] [] := rfl
theorem RpL.cons {d : D} {v : V} {ds : List D} {xs : List V} (h : Rp K φ ψ H d v) (r : RpL K φ ψ H ds xs) : RpL K φ ψ H (d :: ds) (v :: xs) := ⟨v, xs, rfl, h, r⟩
theorem RpL.get : ∀ {ds : List D} {xs : List V} {i : Nat} {d : D}, RpL K φ ψ H ds xs → ds[i]? = some d → ∃ v, xs[i]? = some v ∧ Rp K φ ψ H d v
  | [], _, _, _, _, e => by simp at e
  | d :: ds, _, 0, _, h, e => by
    obtain ⟨x, r, rfl, h1, _⟩ := h
    simp at e; subst e
    exact ⟨x, rfl, h1⟩
  | d :: ds, _, i + 1, _, h, e => by
    obtain ⟨x, r, rfl, _, h2⟩ := h
    obtain ⟨v, e1, e2⟩ := h2.get (i := i) (by simpa using e)
    exact ⟨v, by simpa using e1, e2⟩
theorem RpL.getV : ∀ {ds : List D} {xs : List V} {i : Nat} {v : V}, RpL K φ ψ H ds xs → xs[i]? = some v → ∃ d, ds[i]? = some d ∧ Rp K φ ψ H d v
  | [], _, _, _, h, e => by cases h; simp at e
  | d :: ds, _, 0, _, h, e => by
    obtain ⟨x, r, rfl, h1, _⟩ := h
    simp at e; subst e
    exact ⟨d, rfl, h1⟩
  | d :: ds, _, i + 1, _, h, e => by
    obtain ⟨x, r, rfl, _, h2⟩ := h
    obtain ⟨d, e1, e2⟩ := h2.getV (i := i) (by simpa using e)
    exact ⟨d, by simpa using e1, e2⟩
theorem RpL.append : ∀ {ds es : List D} {xs ys : List V}, RpL K φ ψ H ds xs → RpL K φ ψ H es ys → RpL K φ ψ H (ds ++ es) (xs ++ ys)
  | [], _, _, _, h, q => by cases h; exact q
  | d :: ds, _, _, _, h, q => by
    obtain ⟨x, r, rfl, h1, h2⟩ := h
    exact ⟨x, _, rfl, h1, h2.append q⟩
theorem RpL.set : ∀ {ds : List D} {xs : List V} (i : Nat) {d : D} {v : V}, RpL K φ ψ H ds xs → Rp K φ ψ H d v → RpL K φ ψ H (ds.set i d) (xs.set i v)
  | [], _, _, _, _, h, _ => by cases h; rfl
  | d :: ds, _, 0, _, _, h, q => by
    obtain ⟨x, r, rfl, h1, h2⟩ := h
    exact ⟨_, _, rfl, q, h2⟩
  | d :: ds, _, i + 1, _, _, h, q => by
    obtain ⟨x, r, rfl, h1, h2⟩ := h
    exact ⟨_, _, rfl, h1, h2.set i q⟩
theorem RpL.drop : ∀ {ds : List D} {xs : List V} (n : Nat), RpL K φ ψ H ds xs → RpL K φ ψ H (ds.drop n) (xs.drop n)
  | ds, _, 0, h => h
  | [], _, _ + 1, h => by cases h; rfl
  | d :: ds, _, n + 1, h => by
    obtain ⟨x, r, rfl, _, h2⟩ := h
    exact h2.drop n
theorem RpL.take : ∀ {ds : List D} {xs : List V} (n : Nat), RpL K φ ψ H ds xs → RpL K φ ψ H (ds.take n) (xs.take n)
  | ds, _, 0, h => by simp [RpL]
  | [], _, _ + 1, h => by cases h; rfl
  | d :: ds, _, n + 1, h => by
    obtain ⟨x, r, rfl, h1, h2⟩ := h
    exact ⟨x, _, rfl, h1, h2.take n⟩
theorem RpL.reverse {ds : List D} {xs : List V} (h : RpL K φ ψ H ds xs) : RpL K φ ψ H ds.reverse xs.reverse := by
  induction ds generalizing xs with
  | nil => cases h; rfl
  | cons d ds ih =>
    obtain ⟨x, r, rfl, h1, h2⟩ := h
    rw [List.reverse_cons, List.reverse_cons]
    exact (ih h2).append (.cons h1 .nil)
theorem RpL.nil_iff {ds : List D} {xs : List V} (h : RpL K φ ψ H ds xs) : xs = [] ↔ ds = [] := by
  have := h.length
  constructor
  · rintro rfl; exact List.length_eq_zero_iff.mp this.symm
  · rintro rfl; exact List.length_eq_zero_iff.mp this
end

/-! ### cells -/
def CellOk (K : PySem.W.Frag) (mg : Str → Option Value) (φ ψ : List Addr) (H : Hp) : Cell → Addr → Prop
  | .lst ds, a => ∃ xs, H a = some (.lst xs) ∧ RpL K φ ψ H ds xs
  | .dic ks ds, a => ∃ xs, H a = some (.dK (ks.zip xs)) ∧ ks.length = ds.length ∧ RpL K φ ψ H ds xs
  | .ins c fs ds, a => ∃ C dx xs, mg c = some (.ref C) ∧ H a = some (.ins C dx (fs.zip xs)) ∧ fs.length = ds.length ∧ RpL K φ ψ H ds xs
/-- the memory stands for the cells -/
structure MemOk (K : PySem.W.Frag) (mg : Str → Option Value) (φ ψ : List Addr) (μ : Mem) (H : Hp) : Prop where
  len : φ.length = μ.length
  nd : φ.Nodup
  ats : ∀ (k : Nat) (c : Cell) (a : Addr), μ[k]? = some c → φ[k]? = some a → CellOk K mg φ ψ H c a
  trk : ∀ a ∈ ψ, ∃ o, H a = some o
  dis : ∀ a ∈ ψ, a ∉ φ
section
variable {K : PySem.W.Frag} {mg : Str → Option Value} {φ ψ φ' ψ' : List Addr} {H H' : Hp} {c : Cell} {a : Addr} {μ μ' : Mem}
theorem CellOk.mut (h : CellOk K mg φ ψ H c a) : ∃ o, H a = some o ∧ Mut (some o) := by
  cases c with
  | lst ds => obtain ⟨xs, e, _⟩ := h; exact ⟨_, e, trivial⟩
  | dic ks ds => obtain ⟨xs, e, _⟩ := h; exact ⟨_, e, trivial⟩
  | ins c fs ds => obtain ⟨C, dx, xs, _, e, _⟩ := h; exact ⟨_, e, trivial⟩
theorem CellOk.via (f : ∀ {ds : List D} {xs : List V}, RpL K φ ψ H ds xs → RpL K φ' ψ' H' ds xs) (k : ∀ o, H a = some o → H' a = some o) (h : CellOk K mg φ ψ H c a) : CellOk K mg φ' ψ' H' c a := by
  cases c with
  | lst ds => obtain ⟨xs, e, r⟩ := h; exact ⟨xs, k _ e, f r⟩
  | dic ks ds => obtain ⟨xs, e, l, r⟩ := h; exact ⟨xs, k _ e, l, f r⟩
  | ins c fs ds => obtain ⟨C, dx, xs, m, e, l, r⟩ := h; exact ⟨C, dx, xs, m, k _ e, l, f r⟩
theorem MemOk.less (h : MemOk K mg φ ψ μ H) (hs : ∀ a ∈ ψ', a ∈ ψ) : MemOk K mg φ ψ' μ H :=
  ⟨h.len, h.nd, fun k c a e e' => (h.ats k c a e e').via (fun r => r.less hs) fun _ z => z, fun a z => h.trk a (hs a z), fun a z => h.dis a (hs a z)⟩
theorem MemOk.cell (h : MemOk K mg φ ψ μ H) {k : Nat} (e : μ[k]? = some c) : ∃ a, φ[k]? = some a ∧ CellOk K mg φ ψ H c a := by
  have hl : k < φ.length := by rw [h.len]; exact (List.getElem?_eq_some_iff.mp e).1
  exact ⟨φ[k], by simp [hl], h.ats k c _ e (by simp [hl])⟩
theorem MemOk.tracked (h : MemOk K mg φ ψ μ H) (ha : a ∈ φ) : ∃ o, H a = some o ∧ Mut (some o) := by
  obtain ⟨k, hk, e⟩ := List.getElem_of_mem ha
  have hk' : k < μ.length := by rw [← h.len]; exact hk
  exact (h.ats k μ[k] a (by simp [hk']) (by simp [hk, e])).mut
/-- a new object that is no cell -/
theorem MemOk.new {p : Addr} {o : HO} (h : MemOk K mg φ ψ μ H) (hp : H p = none) : MemOk K mg φ ψ μ (upd H p o) := by
  have g : Go φ H φ (upd H p o) := .new hp
  exact ⟨h.len, h.nd, fun k c a e e' => (h.ats k c a e e').via g.rpL (fun u q => by rw [upd_ne (ne_of_none q hp)]; exact q),
    fun a z => (h.trk a z).elim fun u q => ⟨u, by rw [upd_ne (ne_of_none q hp)]; exact q⟩, h.dis⟩
/-- a cell changes -/
theorem MemOk.set {k : Nat} {o u : HO} (h : MemOk K mg φ ψ μ H) (ha : φ[k]? = some a) (e : H a = some o) (m : Mut (some o)) (new : CellOk K mg φ ψ (upd H a u) c a) : MemOk K mg φ ψ (μ.set k c) (upd H a u) := by
  have hm : a ∈ φ := List.mem_of_getElem? ha
  have g : Gr φ H φ (upd H a u) := .mut hm e m
  refine ⟨by simp [h.len], h.nd, fun j c' b e1 e2 => ?_, fun b z => ?_, h.dis⟩
  · by_cases hj : j = k
    · subst hj
      rw [ha] at e2; cases e2
      have hk : j < μ.length := by rw [← h.len]; exact (List.getElem?_eq_some_iff.mp ha).1
      rw [List.getElem?_set_self hk] at e1; cases e1
      exact new
    · rw [List.getElem?_set_ne (Ne.symm hj)] at e1
      have hb : b ≠ a := fun z => hj (nd_ix h.nd (z ▸ e2) ha)
      exact (h.ats j c' b e1 e2).via (Go.rpL ⟨g, .refl⟩) fun u q => by rw [upd_ne hb]; exact q
  · by_cases hb : b = a
    · subst hb; exact ⟨u, upd_same⟩
    · obtain ⟨u', q⟩ := h.trk b z
      exact ⟨u', by rw [upd_ne hb]; exact q⟩
/-- a new cell -/
theorem MemOk.push {p : Addr} {u : HO} (h : MemOk K mg φ ψ μ H) (hp : H p = none) (new : CellOk K mg (φ ++ [p]) ψ (upd H p u) c p) : MemOk K mg (φ ++ [p]) ψ (μ ++ [c]) (upd H p u) := by
  have hnew : p ∉ φ := fun z => by
    obtain ⟨o, e, _⟩ := h.tracked z
    rw [hp] at e; cases e
  have g : Go φ H (φ ++ [p]) (upd H p u) := ⟨.newC hp, .new⟩
  refine ⟨by simp [h.len], ?_, fun j c' b e1 e2 => ?_, fun b z => ?_, fun b z q => ?_⟩
  · rw [List.nodup_append]
    exact ⟨h.nd, by simp, fun x hx y hy => by
      have : y = p := by simpa using hy
      subst this
      exact fun z => hnew (z ▸ hx)⟩
  · by_cases hj : j < φ.length
    · rw [List.getElem?_append_left hj] at e2
      rw [List.getElem?_append_left (by rw [← h.len]; exact hj)] at e1
      have hb : b ≠ p := fun z => hnew (z ▸ List.mem_of_getElem? e2)
      exact (h.ats j c' b e1 e2).via g.rpL fun u q => by rw [upd_ne hb]; exact q
    · have hj' : j = φ.length := by
        have := (List.getElem?_eq_some_iff.mp e2).1
        simp at this; omega
      subst hj'
      rw [List.getElem?_append_right (Nat.le_refl _)] at e2
      rw [h.len, List.getElem?_append_right (Nat.le_refl _)] at e1
      simp at e1 e2
      subst e1 e2
      exact new
  · obtain ⟨o, q⟩ := h.trk b z
    exact ⟨o, by rw [upd_ne (ne_of_none q hp)]; exact q⟩
  · rcases List.mem_append.mp q with q | q
    · exact h.dis b z q
    · have : b = p := by simpa using q
      subst this
      obtain ⟨o, e⟩ := h.trk b z
      rw [hp] at e; cases e
end

/-- slots, memory: what an expression sees -/
structure Rel (K : PySem.W.Frag) (mg : Str → Option Value) (φ χ ψ : List Addr) (μ : Mem) (η : Env') (σ : L2.St) (H : Hp) : Prop where
  mem : MemOk K mg φ (χ ++ ψ) μ H
  len : η.length = σ.length
  ats : ∀ (i : Nat) (d : D), η[i]? = some (some d) → ∃ v, σ[i]? = some (some v) ∧ Rp K φ χ H d v
theorem Rel.go {K : PySem.W.Frag} {mg : Str → Option Value} {φ χ ψ φ' : List Addr} {μ μ' : Mem} {η : Env'} {σ : L2.St} {H H' : Hp} (r : Rel K mg φ χ ψ μ η σ H) (g : Go φ H φ' H') (m : MemOk K mg φ' (χ ++ ψ) μ' H') : Rel K mg φ' χ ψ μ' η σ H' :=
  ⟨m, r.len, fun i d e => let ⟨v, e1, p⟩ := r.ats i d e; ⟨v, e1, g.rp p⟩⟩

/-! ### readings -/
/-- an exception's data -/
def XOk (K : PySem.W.Frag) (mg : Str → Option Value) (φ χ : List Addr) (H : Hp) (x : Exn) (cls : Value) (d : Option Addr) : Prop :=
  ∃ C dx xs, mg x.cls = some (.ref C) ∧ cls = .ref C ∧ d = some dx ∧ H dx = some (.xd (x.fs.zip xs)) ∧ x.fs.length = x.vs.length ∧ RpL K φ χ H x.vs xs
/-- what is wanted behind: of a value by rep, of an exception by W -/
def Post {α β : Type} (K : PySem.W.Frag) (mg : Str → Option Value) (W : WX) (rep : List Addr → List Addr → List Addr → Hp → α → β → Prop) (σ : L2.St) (φ χ ψ : List Addr) (H : Hp) (r : R α) (Q : β → Hp → Prop) : Prop :=
  match r with
  | .ok d μ' => ∀ v φ' H', Go φ H φ' H' → MemOk K mg φ' (χ ++ ψ) μ' H' → rep φ' χ ψ H' d v → Q v H'
  | .exc x μ' => ∀ cls a φ' H', Go φ H φ' H' → MemOk K mg φ' (χ ++ ψ) μ' H' → XOk K mg φ' χ H' x cls a → W cls a σ H'
  | .stuck => False
section
variable {α β γ δ : Type} {K : PySem.W.Frag} {mg : Str → Option Value} {W : WX} {rep : List Addr → List Addr → List Addr → Hp → α → β → Prop} {rep' : List Addr → List Addr → List Addr → Hp → γ → δ → Prop} {σ : L2.St} {φ χ ψ φ' : List Addr} {H H' : Hp} {μ : Mem} {η : Env'}
theorem Post.go {r : R α} {Q : β → Hp → Prop} (p : Post K mg W rep σ φ χ ψ H r Q) (g : Go φ H φ' H') : Post K mg W rep σ φ' χ ψ H' r Q := by
  cases r with
  | ok d μ' => exact fun v φ2 H2 g2 m r => p v φ2 H2 (g.trans g2) m r
  | exc x μ' => exact fun c a φ2 H2 g2 m r => p c a φ2 H2 (g.trans g2) m r
  | stuck => exact p
abbrev rV (K : PySem.W.Frag) : List Addr → List Addr → List Addr → Hp → D → V → Prop := fun φ χ _ H d v => Rp K φ χ H d v
/-- .. no inner list is one of ψ -/
abbrev rS (K : PySem.W.Frag) : List Addr → List Addr → List Addr → Hp → D → V → Prop := fun φ χ ψ H d v => Rp K φ (χ ++ ψ) H d v
abbrev rL (K : PySem.W.Frag) : List Addr → List Addr → List Addr → Hp → List D → List V → Prop := fun φ χ _ H d v => RpL K φ χ H d v
abbrev rB : List Addr → List Addr → List Addr → Hp → Bool → Bool → Prop := fun _ _ _ _ a b => a = b
abbrev MV := Env' → Mem → R D
abbrev MB := Env' → Mem → R Bool
abbrev ML := Env' → Mem → R (List D)
/-- the reading of a plain function -/
def rd (K : PySem.W.Frag) (mg : Str → Option Value) (W : WX) (rep : List Addr → List Addr → List Addr → Hp → α → β → Prop) (m : Env' → Mem → R α) : L2.St → Hp → (β → Hp → Prop) → Prop := fun σ H Q =>
  ∃ φ χ ψ μ η, Rel K mg φ χ ψ μ η σ H ∧ Post K mg W rep σ φ χ ψ H (m η μ) Q
/-- one part, then the rest -/
theorem rd_bind {m : Env' → Mem → R α} {g : α → Mem → R γ} {Q : δ → Hp → Prop} {C : β → Hp → Prop} (r : Rel K mg φ χ ψ μ η σ H) (p : Post K mg W rep' σ φ χ ψ H ((m η μ).bind g) Q)
    (k : ∀ φ1 H1 μ1 d x, Go φ H φ1 H1 → Rel K mg φ1 χ ψ μ1 η σ H1 → rep φ1 χ ψ H1 d x → Post K mg W rep' σ φ1 χ ψ H1 (g d μ1) Q → C x H1) : rd K mg W rep m σ H C := by
  refine ⟨φ, χ, ψ, μ, η, r, ?_⟩
  cases h : m η μ with
  | ok d μ1 =>
    rw [h] at p
    exact fun v φ1 H1 g1 m1 rp => k φ1 H1 μ1 d v g1 (r.go g1 m1) rp (Post.go p g1)
  | exc x μ1 => rw [h] at p; exact p
  | stuck => rw [h] at p; exact p
end
/-- readings of an expression, a test, arguments -/
abbrev EE (X : Cx) (W : WX) (e : Expr) (m : MV) : Prop := PE X e (rd X.K X.mg W (rV X.K) m)
abbrev ES (X : Cx) (W : WX) (e : Expr) (m : MV) : Prop := PE X e (rd X.K X.mg W (rS X.K) m)
abbrev TT' (X : Cx) (W : WX) (e : Expr) (m : MB) : Prop := PT X e (rd X.K X.mg W rB m)
abbrev WW (X : Cx) (W : WX) (e : Expr) (m : MB) : Prop := PW X e (rd X.K X.mg W rB m)
abbrev AA (X : Cx) (W : WX) (es : List Expr) (m : ML) : Prop := PA X es (rd X.K X.mg W (rL X.K) m)
/-- readings may be weakened -/
theorem _root_.L2.PE.imp {X : Cx} {e : Expr} {t u : TE} (h : PE X e t) (f : ∀ σ H Q, u σ H Q → t σ H Q) : PE X e u := ⟨fun pins s σ H Q I q => h.run pins s σ H Q I (f σ H Q q)⟩
theorem _root_.L2.PT.imp {X : Cx} {e : Expr} {t u : TT} (h : PT X e t) (f : ∀ σ H Q, u σ H Q → t σ H Q) : PT X e u := ⟨fun pins s σ H Q I q => h.run pins s σ H Q I (f σ H Q q)⟩
theorem _root_.L2.PW.imp {X : Cx} {e : Expr} {t u : TT} (h : PW X e t) (f : ∀ σ H Q, u σ H Q → t σ H Q) : PW X e u := ⟨fun wh pins s σ H Q I q => h.run wh pins s σ H Q I (f σ H Q q)⟩
theorem _root_.L2.PA.imp {X : Cx} {es : List Expr} {t u : TA} (h : PA X es t) (f : ∀ σ H Q, u σ H Q → t σ H Q) : PA X es u := ⟨fun pos pins s σ H Q I q => h.run pos pins s σ H Q I (f σ H Q q)⟩
theorem _root_.L2.PE.or {X : Cx} {e : Expr} {t u : TE} (h : PE X e t) (h' : PE X e u) : PE X e (fun σ H Q => t σ H Q ∨ u σ H Q) := ⟨fun pins s σ H Q I q => q.elim (h.run pins s σ H Q I) (h'.run pins s σ H Q I)⟩
theorem _root_.L2.PS.imp {X : Cx} {st : Stmt} {t u : TS} (h : PS X st t) (f : ∀ D σ H, u D σ H → t D σ H) : PS X st u := ⟨fun pins s σ H D I q => h.run pins s σ H D I (f D σ H q)⟩
theorem _root_.L2.PSs.imp {X : Cx} {st : List Stmt} {t u : TS} (h : PSs X st t) (f : ∀ D σ H, u D σ H → t D σ H) : PSs X st u := ⟨fun pins s σ H D I q => h.run pins s σ H D I (f D σ H q)⟩
theorem _root_.L2.PS.or {X : Cx} {e : Stmt} {t u : TS} (h : PS X e t) (h' : PS X e u) : PS X e (fun D σ H => t D σ H ∨ u D σ H) := ⟨fun pins s σ H Q I q => q.elim (h.run pins s σ H Q I) (h'.run pins s σ H Q I)⟩
theorem _root_.L2.PI.or {X : Cx} {tg it : Expr} {t u : TI} (h : PI X tg it t) (h' : PI X tg it u) : PI X tg it (fun σ H Q => t σ H Q ∨ u σ H Q) := ⟨fun pins s σ H Q I q => q.elim (h.run pins s σ H Q I) (h'.run pins s σ H Q I)⟩
theorem _root_.L2.PI.imp {X : Cx} {tg it : Expr} {t u : TI} (h : PI X tg it t) (f : ∀ σ H Q, u σ H Q → t σ H Q) : PI X tg it u := ⟨fun pins s σ H Q I q => h.run pins s σ H Q I (f σ H Q q)⟩

/-! ### names, constants, displays -/
def mVar (i : Nat) : MV := fun η μ => match η[i]? with
  | some (some d) => .ok d μ
  | _ => .stuck
def mC (d : D) : MV := fun _ μ => .ok d μ
section
variable {X : Cx} {W : WX}
theorem ee_var {i : Nat} {e : Expr} (h : PE X e (tVar i)) : EE X W e (mVar i) := h.imp fun σ H Q q => by
  obtain ⟨φ, χ, ψ, μ, η, r, p⟩ := q
  unfold mVar at p
  split at p
  · rename_i d e
    obtain ⟨v, e1, rp⟩ := r.ats i d e
    exact ⟨v, e1, p v φ H .refl r.mem rp⟩
  · exact p.elim
theorem ee_c {e : Expr} {d : D} {v : V} (h : PE X e (tC v)) (hr : ∀ φ χ H, Rp X.K φ χ H d v) : EE X W e (mC d) := h.imp fun σ H Q q => by
  obtain ⟨φ, χ, ψ, μ, η, r, p⟩ := q
  exact p v φ H .refl r.mem (hr φ χ H)
theorem ee_int {i : Int} {j pos} : EE X W (.Constant (.int i) j pos) (mC (.int i)) := ee_c pe_int fun _ _ _ => rfl
theorem ee_bl {b : Bool} {j pos} : EE X W (.Constant (.bool b) j pos) (mC (.bl b)) := ee_c pe_bl fun _ _ _ => rfl
theorem ee_non {j pos} : EE X W (.Constant .none j pos) (mC .non) := ee_c pe_non fun _ _ _ => rfl
theorem ee_str {x : Str} {j pos} : EE X W (.Constant (.str x) j pos) (mC (.str x)) := ee_c pe_str fun _ _ _ => rfl
/-! arguments -/
def aNil : ML := fun _ μ => .ok [] μ
def aCons (m : MV) (ms : ML) : ML := fun η μ => (m η μ).bind fun d μ1 => (ms η μ1).bind fun ds μ2 => .ok (d :: ds) μ2
theorem aa_nil : AA X W [] aNil := pa_nil.imp fun σ H Q q => by
  obtain ⟨φ, χ, ψ, μ, η, r, p⟩ := q
  exact p [] φ H .refl r.mem rfl
theorem aa_cons {e : Expr} {es : List Expr} {m : MV} {ms : ML} (h : EE X W e m) (hr : AA X W es ms) (hs : starEach (e :: es) X.env = (false, eval e X.env) :: starEach es X.env := by rfl) : AA X W (e :: es) (aCons m ms) :=
  (pa_cons h hr hs).imp fun σ H Q q => by
    obtain ⟨φ, χ, ψ, μ, η, r, p⟩ := q
    refine rd_bind r p fun φ1 H1 μ1 d x g1 r1 rx p1 => ?_
    refine rd_bind r1 p1 fun φ2 H2 μ2 ds xs g2 r2 rxs p2 => ?_
    exact p2 (x :: xs) φ2 H2 .refl r2.mem (.cons (g2.rp rx) rxs)
def mTup (ms : ML) : MV := fun η μ => (ms η μ).bind fun ds μ1 => if ds.length ≤ 10000000 then .ok (.tup ds) μ1 else .stuck
def mLst (ms : ML) : MV := fun η μ => (ms η μ).bind fun ds μ1 => if ds.length ≤ 10000000 then .ok (.lst ds) μ1 else .stuck
theorem line_le {n : Nat} (h : n ≤ 10000000) : n ≤ sizeLine := Nat.le_trans h (by decide)
theorem Post.ite {α β : Type} {K : PySem.W.Frag} {mg : Str → Option Value} {rep : List Addr → List Addr → List Addr → Hp → α → β → Prop} {σ : L2.St} {φ χ ψ : List Addr} {H : Hp} {c : Prop} [Decidable c] {r : R α} {Q : β → Hp → Prop} (p : Post K mg W rep σ φ χ ψ H (if c then r else .stuck) Q) : c ∧ Post K mg W rep σ φ χ ψ H r Q := by
  split at p
  · rename_i h; exact ⟨h, p⟩
  · exact p.elim
theorem Gr.notin {φ ψ : List Addr} {K : PySem.W.Frag} {mg : Str → Option Value} {μ : Mem} {H : Hp} {p : Addr} (m : MemOk K mg φ ψ μ H) (hp : H p = none) : p ∉ φ := fun z => by
  obtain ⟨o, e, _⟩ := m.tracked z
  rw [hp] at e; cases e
theorem Gr.off {φ ψ : List Addr} {K : PySem.W.Frag} {mg : Str → Option Value} {μ : Mem} {H : Hp} {p : Addr} (m : MemOk K mg φ ψ μ H) (hp : H p = none) : p ∉ ψ := fun z => by
  obtain ⟨o, e⟩ := m.trk p z
  rw [hp] at e; cases e
theorem Gr.offχ {φ χ ψ : List Addr} {K : PySem.W.Frag} {mg : Str → Option Value} {μ : Mem} {H : Hp} {p : Addr} (m : MemOk K mg φ (χ ++ ψ) μ H) (hp : H p = none) : p ∉ χ := fun z => Gr.off m hp (List.mem_append_left _ z)
theorem ee_tup {es : List Expr} {ms : ML} {k pos} (h : AA X W es ms) : EE X W (.Tuple es k pos) (mTup ms) := (pe_tup h).imp fun σ H Q q => by
  obtain ⟨φ, χ, ψ, μ, η, r, p⟩ := q
  refine rd_bind r p fun φ1 H1 μ1 ds xs g1 r1 rx p1 => ?_
  obtain ⟨c, p1⟩ := p1.ite
  refine ⟨line_le (by rw [rx.length]; exact c), fun a ha => ?_⟩
  have g : Go φ1 H1 φ1 (upd H1 a (.tup xs)) := .new ha
  exact p1 _ φ1 _ g (r1.mem.new ha) ⟨a, xs, rfl, .of upd_same, g.rpL rx⟩
theorem ee_lst {es : List Expr} {ms : ML} {pos} (h : AA X W es ms) : EE X W (.List es pos) (mLst ms) := (pe_lst h).imp fun σ H Q q => by
  obtain ⟨φ, χ, ψ, μ, η, r, p⟩ := q
  refine rd_bind r p fun φ1 H1 μ1 ds xs g1 r1 rx p1 => ?_
  obtain ⟨c, p1⟩ := p1.ite
  refine ⟨line_le (by rw [rx.length]; exact c), fun a ha => ?_⟩
  have g : Go φ1 H1 φ1 (upd H1 a (.lst xs)) := .new ha
  exact p1 _ φ1 _ g (r1.mem.new ha) ⟨a, xs, rfl, ⟨Gr.notin r1.mem ha, Gr.offχ r1.mem ha⟩, upd_same, g.rpL rx⟩
end
end FP
/-! Core2: operators, comparisons, tests, subscripts. -/
namespace FP
open PySem PySem.Spec L2
open PyProof.Rows hiding St

/-! ### what stands at data -/
/-- the items of a list -/
def lseq (μ : Mem) : D → Option (List D)
  | .lst ds => some ds
  | .fro ds => some ds
  | .ptr k => match μ[k]? with
    | some (.lst ds) => some ds
    | _ => none
  | _ => none
/-- the items of a list or a tuple -/
def aseq (μ : Mem) : D → Option (List D)
  | .tup ds => some ds
  | .ptu ds => some ds
  | d => lseq μ d
@[simp] theorem lseq_lst (μ : Mem) (ds : List D) : lseq μ (.lst ds) = some ds := (Eq.refl _).trans (Eq.refl _)
@[simp] theorem lseq_fro (μ : Mem) (ds : List D) : lseq μ (.fro ds) = some ds := (Eq.refl _).trans (Eq.refl _)
@[simp] theorem aseq_lst (μ : Mem) (ds : List D) : aseq μ (.lst ds) = some ds := (Eq.refl _).trans (Eq.refl _)
@[simp] theorem aseq_fro (μ : Mem) (ds : List D) : aseq μ (.fro ds) = some ds := (Eq.refl _).trans (Eq.refl _)
@[simp] theorem aseq_ptu (μ : Mem) (ds : List D) : aseq μ (.ptu ds) = some ds := (Eq.refl _).trans (Eq.refl _)
@[simp] theorem aseq_tup (μ : Mem) (ds : List D) : aseq μ (.tup ds) = some ds := (Eq.refl _).trans (Eq.refl _)
section
variable {K : PySem.W.Frag} {mg : Str → Option Value} {φ χ ψ : List Addr} {H : Hp} {μ : Mem} {d : D} {v : V} {ds : List D}
theorem lseq_rp (m : MemOk K mg φ (χ ++ ψ) μ H) (r : Rp K φ χ H d v) (e : lseq μ d = some ds) : ∃ a xs, v = .ref a ∧ SqL K H a xs ∧ RpL K φ χ H ds xs := by
  cases d with
  | lst l =>
    cases e
    obtain ⟨a, xs, e, _, h, q⟩ := r
    exact ⟨a, xs, e, .of h, q⟩
  | fro l =>
    cases e
    obtain ⟨a, xs, e, h, q⟩ := r
    exact ⟨a, xs, e, h.seq, q⟩
  | ptr k =>
    unfold lseq at e
    simp only at e
    split at e
    · rename_i l hl
      cases e
      obtain ⟨a, ha, rfl⟩ := r
      obtain ⟨xs, e1, q⟩ := m.ats k _ a hl ha
      exact ⟨a, xs, rfl, .of e1, q.less fun _ z => List.mem_append_left _ z⟩
    · cases e
  | _ => cases e
theorem aseq_rp (m : MemOk K mg φ (χ ++ ψ) μ H) (r : Rp K φ χ H d v) (e : aseq μ d = some ds) : ∃ a xs, v = .ref a ∧ (SqL K H a xs ∨ SqT K H a xs) ∧ RpL K φ χ H ds xs := by
  by_cases h : (∃ l, d = .tup l) ∨ (∃ l, d = .ptu l)
  · rcases h with ⟨l, rfl⟩ | ⟨l, rfl⟩
    · cases e
      obtain ⟨a, xs, e, h, q⟩ := r
      exact ⟨a, xs, e, .inr h, q⟩
    · cases e
      obtain ⟨a, xs, e, ⟨o, h, _⟩, q⟩ := r
      exact ⟨a, xs, e, .inr (.inl (.inr ⟨o, h⟩)), q⟩
  · have e' : lseq μ d = some ds := by
      cases d with
      | tup l => exact absurd (.inl ⟨l, rfl⟩) h
      | ptu l => exact absurd (.inr ⟨l, rfl⟩) h
      | _ => exact e
    obtain ⟨a, xs, e1, h, q⟩ := lseq_rp m r e'
    exact ⟨a, xs, e1, .inl h, q⟩
end

/-! ### two-place operations -/
def mOp (f : D → D → Mem → R D) (a b : MV) : MV := fun η μ => (a η μ).bind fun x μ1 => (b η μ1).bind fun y μ2 => f x y μ2
/-- f is what r asks -/
def OpS (K : PySem.W.Frag) (mg : Str → Option Value) (f : D → D → Mem → R D) (r : R2) : Prop :=
  ∀ (W : WX) (φ χ ψ : List Addr) (μ : Mem) (σ : L2.St) (H : Hp) (d e : D) (x y : V) (Q : VK), MemOk K mg φ (χ ++ ψ) μ H → Rp K φ χ H d x → Rp K φ χ H e y → Post K mg W (rV K) σ φ χ ψ H (f d e μ) Q → r x y H Q
section
variable {X : Cx} {W : WX} {f : D → D → Mem → R D} {r : R2} {a b : Expr} {ma mb : MV} {pos : Pos}
theorem rd_op {σ : L2.St} {H : Hp} {Q : VK} (hr : OpS X.K X.mg f r) (q : rd X.K X.mg W (rV X.K) (mOp f ma mb) σ H Q) : tOp r (rd X.K X.mg W (rV X.K) ma) (rd X.K X.mg W (rV X.K) mb) σ H Q := by
  obtain ⟨φ, χ, ψ, μ, η, rl, p⟩ := q
  refine rd_bind rl p fun φ1 H1 μ1 d x g1 r1 rx p1 => ?_
  refine rd_bind r1 p1 fun φ2 H2 μ2 e y g2 r2 ry p2 => ?_
  exact hr W φ2 χ ψ μ2 σ H2 d e x y Q r2.mem (g2.rp rx) ry p2
theorem ee_op {op : Operator} (ho : OpR X (binaryOp op) r) (hr : OpS X.K X.mg f r) (ha : EE X W a ma) (hb : EE X W b mb) : EE X W (.BinOp a op b pos) (mOp f ma mb) :=
  (pe_op ho ha hb).imp fun _ _ _ q => rd_op hr q
theorem ee_cmp {op : CmpOp} (ho : OpR X (compareOp op) r) (hr : OpS X.K X.mg f r) (ha : EE X W a ma) (hb : EE X W b mb) (hm : behindInMarks op b = false) : EE X W (.Compare a [op] [b] pos) (mOp f ma mb) :=
  (pe_cmpR ho ha hb hm).imp fun _ _ _ q => rd_op hr q
/-- a truth value as a test -/
def mTst (m : MV) : MB := fun η μ => (m η μ).bind fun d μ1 => match d with
  | .bl b => .ok b μ1
  | _ => .stuck
theorem rd_tst {K : PySem.W.Frag} {mg : Str → Option Value} {m : MV} {σ : L2.St} {H : Hp} {Q : Bool → Hp → Prop} (q : rd K mg W rB (mTst m) σ H Q) : rd K mg W (rV K) m σ H fun x H1 => ∃ k, x = .bl k ∧ Q k H1 := by
  obtain ⟨φ, χ, ψ, μ, η, rl, p⟩ := q
  refine rd_bind rl p fun φ1 H1 μ1 d x g1 r1 rx p1 => ?_
  split at p1
  · rename_i b
    exact ⟨b, rx, p1 b φ1 H1 .refl r1.mem rfl⟩
  · exact p1.elim
theorem tt_cmp {op : CmpOp} (ho : OpR X (compareOp op) r) (hr : OpS X.K X.mg f r) (ha : EE X W a ma) (hb : EE X W b mb) (hm : behindInMarks op b = false) : TT' X W (.Compare a [op] [b] pos) (mTst (mOp f ma mb)) :=
  (pt_cmpR ho ha hb hm).imp fun _ _ _ q => by
    have z := rd_tst q
    obtain ⟨φ, χ, ψ, μ, η, rl, p⟩ := z
    exact rd_op hr ⟨φ, χ, ψ, μ, η, rl, p⟩
theorem tt_val {e : Expr} {m : MV} (h : EE X W e m) (he : ∀ whole, isTrue e X.env whole = (do let v ← whole; standAt e.pos; holding [v] (truthy v)) := by intro _; rfl) : TT' X W e (mTst m) :=
  (pt_val h he).imp fun _ _ _ q => rd_tst q
end

/-! ### + - * // % -/
def fAdd : D → D → Mem → R D
  | .int i, .int j, μ => .ok (.int (i + j)) μ
  | .str a, .str b, μ => if a.length + b.length ≤ 10000000 then .ok (.str (a ++ b)) μ else .stuck
  | .tup a, .tup b, μ => if a.length + b.length ≤ 10000000 then .ok (.tup (a ++ b)) μ else .stuck
  | .lst a, .lst b, μ => if a.length + b.length ≤ 10000000 then .ok (.lst (a ++ b)) μ else .stuck
  | _, _, _ => .stuck
def rAddD (K : PySem.W.Frag) : R2 := fun x y H Q => (∃ i j, x = .int i ∧ y = .int j ∧ Q (.int (i + j)) H) ∨ (∃ i j, x = .str i ∧ y = .str j ∧ i.length + j.length ≤ sizeLine ∧ Q (.str (i ++ j)) H) ∨ rCatA K x y H Q ∨ rCat x y H Q
theorem or_add {X : Cx} : OpR X (binaryOp .Add) (rAddD X.K) := op_add.or (op_add_str.or (op_catA.or op_cat))
theorem os_add {K : PySem.W.Frag} {mg : Str → Option Value} : OpS K mg fAdd (rAddD K) := by
  intro W φ χ ψ μ σ H d e x y Q m rx ry p
  unfold fAdd at p
  split at p
  · exact .inl ⟨_, _, rx, ry, p _ _ _ .refl m rfl⟩
  · obtain ⟨c, p⟩ := p.ite
    exact .inr (.inl ⟨_, _, rx, ry, line_le c, p _ _ _ .refl m rfl⟩)
  · obtain ⟨c, p⟩ := p.ite
    obtain ⟨a1, xs, e1, h1, q1⟩ := rx
    obtain ⟨a2, ys, e2, h2, q2⟩ := ry
    refine .inr (.inr (.inl ⟨a1, a2, xs, ys, e1, e2, h1, h2, line_le (by rw [q1.length, q2.length]; exact c), fun z => ?_, fun z1 z2 => ?_, fun z1 z2 t ht => ?_⟩))
    · refine p _ _ _ .refl m ⟨a2, ys, rfl, h2, ?_⟩
      rw [q1.nil_iff.mp z]; exact q2
    · refine p _ _ _ .refl m ⟨a1, xs, rfl, h1, ?_⟩
      rw [q2.nil_iff.mp z2, List.append_nil]; exact q1
    · have g : Go φ H φ (upd H t (.tup (xs ++ ys))) := .new ht
      exact p _ _ _ g (m.new ht) ⟨t, _, rfl, .of upd_same, g.rpL (q1.append q2)⟩
  · obtain ⟨c, p⟩ := p.ite
    obtain ⟨a1, xs, e1, n1, h1, q1⟩ := rx
    obtain ⟨a2, ys, e2, n2, h2, q2⟩ := ry
    refine .inr (.inr (.inr ⟨a1, a2, xs, ys, e1, e2, h1, h2, line_le (by rw [q1.length, q2.length]; exact c), fun t ht => ?_⟩))
    have g : Go φ H φ (upd H t (.lst (xs ++ ys))) := .new ht
    exact p _ _ _ g (m.new ht) ⟨t, _, rfl, ⟨Gr.notin m ht, Gr.offχ m ht⟩, upd_same, g.rpL (q1.append q2)⟩
  · exact p.elim
def fSub : D → D → Mem → R D
  | .int i, .int j, μ => .ok (.int (i - j)) μ
  | _, _, _ => .stuck
theorem os_sub {K : PySem.W.Frag} {mg : Str → Option Value} : OpS K mg fSub (rI0 fun i j => .int (i - j)) := by
  intro W φ χ ψ μ σ H d e x y Q m rx ry p
  unfold fSub at p
  split at p
  · exact ⟨_, _, rx, ry, p _ _ _ .refl m rfl⟩
  · exact p.elim
def mulOk (i j : Int) : Bool := (decide (-(2 ^ 64) < i) && decide (i < 2 ^ 64)) || (decide (-(2 ^ 64) < j) && decide (j < 2 ^ 64))
def fMul : D → D → Mem → R D
  | .int i, .int j, μ => if mulOk i j = true then .ok (.int (i * j)) μ else .stuck
  | _, _, _ => .stuck
theorem os_mul {K : PySem.W.Frag} {mg : Str → Option Value} : OpS K mg fMul (rI CMul fun i j => .int (i * j)) := by
  intro W φ χ ψ μ σ H d e x y Q m rx ry p
  unfold fMul at p
  split at p
  · obtain ⟨c, p⟩ := p.ite
    refine ⟨_, _, rx, ry, ?_, p _ _ _ .refl m rfl⟩
    unfold mulOk at c
    simp only [Bool.or_eq_true, Bool.and_eq_true, decide_eq_true_eq] at c
    exact c
  · exact p.elim
def fDiv : D → D → Mem → R D
  | .int i, .int j, μ => if (decide (0 < j) && decide (j < 1073741824)) = true then .ok (.int (i / j)) μ else .stuck
  | _, _, _ => .stuck
theorem os_div {K : PySem.W.Frag} {mg : Str → Option Value} : OpS K mg fDiv (rI CDiv fun i j => .int (i / j)) := by
  intro W φ χ ψ μ σ H d e x y Q m rx ry p
  unfold fDiv at p
  split at p
  · obtain ⟨c, p⟩ := p.ite
    simp only [Bool.and_eq_true, decide_eq_true_eq] at c
    exact ⟨_, _, rx, ry, c, p _ _ _ .refl m rfl⟩
  · exact p.elim
def fMod : D → D → Mem → R D
  | .int i, .int j, μ => if decide (0 < j) = true then .ok (.int (i % j)) μ else .stuck
  | _, _, _ => .stuck
theorem os_mod {K : PySem.W.Frag} {mg : Str → Option Value} : OpS K mg fMod (rI (fun _ j => 0 < j) fun i j => .int (i % j)) := by
  intro W φ χ ψ μ σ H d e x y Q m rx ry p
  unfold fMod at p
  split at p
  · obtain ⟨c, p⟩ := p.ite
    exact ⟨_, _, rx, ry, of_decide_eq_true c, p _ _ _ .refl m rfl⟩
  · exact p.elim
section
variable {X : Cx} {W : WX} {a b : Expr} {ma mb : MV} {pos : Pos}
theorem ee_add (ha : EE X W a ma) (hb : EE X W b mb) : EE X W (.BinOp a .Add b pos) (mOp fAdd ma mb) := ee_op or_add os_add ha hb
theorem ee_sub (ha : EE X W a ma) (hb : EE X W b mb) : EE X W (.BinOp a .Sub b pos) (mOp fSub ma mb) := ee_op op_sub os_sub ha hb
theorem ee_mul (ha : EE X W a ma) (hb : EE X W b mb) : EE X W (.BinOp a .Mult b pos) (mOp fMul ma mb) := ee_op op_mul os_mul ha hb
theorem ee_div (ha : EE X W a ma) (hb : EE X W b mb) : EE X W (.BinOp a .FloorDiv b pos) (mOp fDiv ma mb) := ee_op op_fdiv os_div ha hb
theorem ee_mod (ha : EE X W a ma) (hb : EE X W b mb) : EE X W (.BinOp a .Mod b pos) (mOp fMod ma mb) := ee_op op_mod os_mod ha hb
end
def mNeg (m : MV) : MV := fun η μ => (m η μ).bind fun d μ1 => match d with
  | .int i => .ok (.int (-i)) μ1
  | _ => .stuck
theorem ee_neg {X : Cx} {W : WX} {a : Expr} {ma : MV} {pos : Pos} (ha : EE X W a ma) : EE X W (.UnaryOp .USub a pos) (mNeg ma) := (pe_un un_neg ha).imp fun σ H Q q => by
  obtain ⟨φ, χ, ψ, μ, η, rl, p⟩ := q
  refine rd_bind rl p fun φ1 H1 μ1 d x g1 r1 rx p1 => ?_
  split at p1
  · exact ⟨_, rx, p1 _ _ _ .refl r1.mem rfl⟩
  · exact p1.elim

/-! ### == and != -/
mutual
def toP (μ : Mem) : D → Option PyData
  | .non => some .none
  | .bl b => some (.bool b)
  | .int i => some (.int i)
  | .str s => some (.str s)
  | .tup l => (toPL μ l).map .tuple
  | .lst l => (toPL μ l).map .list
  | .fro l => (toPL μ l).map .list
  | .ptu l => (toPL μ l).map .tuple
  | .dic _ _ => none
  | .ptr k => none
  | .exn _ _ _ _ => none
def toPL (μ : Mem) : List D → Option (List PyData)
  | [] => some []
  | d :: l => match toP μ d, toPL μ l with
    | some x, some r => some (x :: r)
    | _, _ => none
end
def scalD : D → D → Bool
  | .non, .non => true | .non, .int _ => true | .int _, .non => true | .non, .bl _ => true | .bl _, .non => true | .non, .str _ => true | .str _, .non => true
  | .int _, .int _ => true | .bl _, .bl _ => true | .str _, .str _ => true
  | .int _, .str _ => true | .str _, .int _ => true | .bl _, .str _ => true | .str _, .bl _ => true
  | _, _ => false
/-- scalars of one kind and equal -/
def eqS : D → D → Bool
  | .non, .non => true
  | .bl a, .bl b => a == b
  | .int i, .int j => i == j
  | .str x, .str y => x == y
  | _, _ => false
/-- the answer of ==, where the model gives one here -/
def eqD (μ : Mem) (d e : D) : Option Bool :=
  if scalD d e = true then some (eqS d e) else
    match toP μ d, toP μ e with
    | some x, some y => if (SeqAt.shaped x && SeqAt.shaped y) = true then some (PyData.eqv x y) else none
    | _, _ => none
def fEq (d e : D) (μ : Mem) : R D := match eqD μ d e with
  | some b => .ok (.bl b) μ
  | none => .stuck
def fNe (d e : D) (μ : Mem) : R D := match eqD μ d e with
  | some b => .ok (.bl (!b)) μ
  | none => .stuck
section
variable {K : PySem.W.Frag} {mg : Str → Option Value} {φ χ ψ : List Addr} {H : Hp} {μ : Mem}
mutual
theorem toP_rp : ∀ {d : D} {v : V} {x : PyData}, Rp K φ χ H d v → toP μ d = some x → Dp K H v x
  | .non, _, _, h, e => by cases e; cases h; exact .non
  | .bl _, _, _, h, e => by cases e; cases h; exact .bl _
  | .int _, _, _, h, e => by cases e; cases h; exact .int _
  | .str _, _, _, h, e => by cases e; cases h; exact .str _
  | .tup l, _, _, h, e => by
    unfold toP at e
    obtain ⟨a, xs, rfl, hs, q⟩ := h
    cases hl : toPL μ l with
    | none => rw [hl] at e; cases e
    | some r => rw [hl] at e; cases e; exact .tup hs (toPL_rp q hl)
  | .lst l, _, _, h, e => by
    unfold toP at e
    obtain ⟨a, xs, rfl, _, hs, q⟩ := h
    cases hl : toPL μ l with
    | none => rw [hl] at e; cases e
    | some r => rw [hl] at e; cases e; exact .lst (.of hs) (toPL_rp q hl)
  | .fro l, _, _, h, e => by
    unfold toP at e
    obtain ⟨a, xs, rfl, hs, q⟩ := h
    cases hl : toPL μ l with
    | none => rw [hl] at e; cases e
    | some r => rw [hl] at e; cases e; exact .lst hs.seq (toPL_rp q hl)
  | .ptu l, _, _, h, e => by
    unfold toP at e
    obtain ⟨a, xs, rfl, ⟨o, hs, _⟩, q⟩ := h
    cases hl : toPL μ l with
    | none => rw [hl] at e; cases e
    | some r => rw [hl] at e; cases e; exact .tup (.inl (.inr ⟨o, hs⟩)) (toPL_rp q hl)
  | .dic _ _, _, _, _, e => by cases e
  | .ptr _, _, _, _, e => by cases e
  | .exn _ _ _ _, _, _, _, e => by cases e
theorem toPL_rp : ∀ {l : List D} {vs : List V} {xs : List PyData}, RpL K φ χ H l vs → toPL μ l = some xs → DpAll K H vs xs
  | [], _, _, h, e => by cases e; cases h; exact .nil
  | d :: l, _, _, h, e => by
    unfold toPL at e
    obtain ⟨x, r, rfl, h1, h2⟩ := h
    cases e1 : toP μ d with
    | none => rw [e1] at e; cases e
    | some y =>
      cases e2 : toPL μ l with
      | none => rw [e1, e2] at e; cases e
      | some ys => rw [e1, e2] at e; cases e; exact .cons (toP_rp h1 e1) (toPL_rp h2 e2)
end
theorem scal_rp {d e : D} {x y : V} (rx : Rp K φ χ H d x) (ry : Rp K φ χ H e y) (h : scalD d e = true) : scal x y = true ∧ decide (x = y) = eqS d e := by
  cases d <;> cases e <;> first | (cases h; done) | (cases rx; cases ry; refine ⟨rfl, ?_⟩; first | rfl | (simp [eqS, Bool.beq_eq_decide_eq]; done) | (simp only [eqS]; rw [Bool.eq_iff_iff]; simp))
theorem eq_rp {d e : D} {x y : V} {b : Bool} (rx : Rp K φ χ H d x) (ry : Rp K φ χ H e y) (h : eqD μ d e = some b) :
    (scal x y = true ∧ decide (x = y) = b) ∨ (∃ p q, Dp K H x p ∧ Dp K H y q ∧ SeqAt.shaped p = true ∧ SeqAt.shaped q = true ∧ PyData.eqv p q = b) := by
  unfold eqD at h
  split at h
  · rename_i hs
    obtain ⟨h1, h2⟩ := scal_rp rx ry hs
    cases h
    exact .inl ⟨h1, h2⟩
  · split at h
    · rename_i p q e1 e2
      split at h
      · rename_i hs
        cases h
        simp only [Bool.and_eq_true] at hs
        exact .inr ⟨p, q, toP_rp rx e1, toP_rp ry e2, hs.1, hs.2, rfl⟩
      · cases h
    · cases h
end
def rEqF (K : PySem.W.Frag) : R2 := fun x y H Q => rEq x y H Q ∨ rEqD K x y H Q
def rNeF (K : PySem.W.Frag) : R2 := fun x y H Q => rNe x y H Q ∨ rNeD K x y H Q
theorem os_eq {K : PySem.W.Frag} {mg : Str → Option Value} : OpS K mg fEq (rEqF K) := by
  intro W φ χ ψ μ σ H d e x y Q m rx ry p
  unfold fEq at p
  split at p
  · rename_i b hb
    rcases eq_rp rx ry hb with ⟨h1, h2⟩ | ⟨u, w, h1, h2, h3, h4, h5⟩
    · exact .inl ⟨h1, by rw [h2]; exact p _ _ _ .refl m rfl⟩
    · exact .inr ⟨u, w, h1, h2, h3, h4, by rw [h5]; exact p _ _ _ .refl m rfl⟩
  · exact p.elim
theorem os_ne {K : PySem.W.Frag} {mg : Str → Option Value} : OpS K mg fNe (rNeF K) := by
  intro W φ χ ψ μ σ H d e x y Q m rx ry p
  unfold fNe at p
  split at p
  · rename_i b hb
    rcases eq_rp rx ry hb with ⟨h1, h2⟩ | ⟨u, w, h1, h2, h3, h4, h5⟩
    · exact .inl ⟨h1, by rw [h2]; exact p _ _ _ .refl m rfl⟩
    · exact .inr ⟨u, w, h1, h2, h3, h4, by rw [h5]; exact p _ _ _ .refl m rfl⟩
  · exact p.elim
/-! ### order: ints, texts -/
def ltS (a b : Str) : Bool := decide (a.cps.toList < b.cps.toList)
def fCmp (pI : Int → Int → Bool) (pS : Str → Str → Bool) : D → D → Mem → R D
  | .int i, .int j, μ => .ok (.bl (pI i j)) μ
  | .str a, .str b, μ => .ok (.bl (pS a b)) μ
  | _, _, _ => .stuck
def fLt := fCmp (fun i j => decide (i < j)) ltS
def fLe := fCmp (fun i j => decide (i ≤ j)) fun a b => !ltS b a
def fGt := fCmp (fun i j => decide (j < i)) fun a b => ltS b a
def fGe := fCmp (fun i j => decide (j ≤ i)) fun a b => !ltS a b
def rCmp (pI : Int → Int → Bool) (pS : Str → Str → Bool) : R2 := fun x y H Q => (∃ i j, x = .int i ∧ y = .int j ∧ Q (.bl (pI i j)) H) ∨ (∃ i j, x = .str i ∧ y = .str j ∧ Q (.bl (pS i j)) H)
theorem os_cmp {K : PySem.W.Frag} {mg : Str → Option Value} {pI : Int → Int → Bool} {pS : Str → Str → Bool} : OpS K mg (fCmp pI pS) (rCmp pI pS) := by
  intro W φ χ ψ μ σ H d e x y Q m rx ry p
  unfold fCmp at p
  split at p
  · exact .inl ⟨_, _, rx, ry, p _ _ _ .refl m rfl⟩
  · exact .inr ⟨_, _, rx, ry, p _ _ _ .refl m rfl⟩
  · exact p.elim
theorem or_lt {X : Cx} : OpR X (compareOp .Lt) (rCmp (fun i j => decide (i < j)) ltS) := op_lt.or op_lt_str
theorem or_le {X : Cx} : OpR X (compareOp .LtE) (rCmp (fun i j => decide (i ≤ j)) fun a b => !ltS b a) := op_le.or op_le_str
theorem or_gt {X : Cx} : OpR X (compareOp .Gt) (rCmp (fun i j => decide (j < i)) fun a b => ltS b a) := op_gt.or op_gt_str
theorem or_ge {X : Cx} : OpR X (compareOp .GtE) (rCmp (fun i j => decide (j ≤ i)) fun a b => !ltS a b) := op_ge.or op_ge_str
/-! ### is None -/
def isN : D → Bool
  | .non => true
  | _ => false
def fIsN : D → D → Mem → R D
  | d, .non, μ => .ok (.bl (isN d)) μ
  | _, _, _ => .stuck
def fNotN : D → D → Mem → R D
  | d, .non, μ => .ok (.bl (!isN d)) μ
  | _, _, _ => .stuck
theorem isN_rp {K : PySem.W.Frag} {φ χ : List Addr} {H : Hp} {d : D} {x : V} (r : Rp K φ χ H d x) : decide (x = .non) = isN d := by
  cases d with
  | non => cases r; rfl
  | bl b => cases r; rfl
  | int b => cases r; rfl
  | str b => cases r; rfl
  | tup l => obtain ⟨a, xs, rfl, _⟩ := r; rfl
  | lst l => obtain ⟨a, xs, rfl, _⟩ := r; rfl
  | fro l => obtain ⟨a, xs, rfl, _⟩ := r; rfl
  | ptu l => obtain ⟨a, xs, rfl, _⟩ := r; rfl
  | dic ks l => obtain ⟨a, xs, rfl, _⟩ := r; rfl
  | ptr k => obtain ⟨a, _, rfl⟩ := r; rfl
  | exn a d fs l => obtain ⟨rfl, _⟩ := r; rfl
theorem os_isN {K : PySem.W.Frag} {mg : Str → Option Value} : OpS K mg fIsN (fun x y H Q => y = .non ∧ Q (.bl (decide (x = .non))) H) := by
  intro W φ χ ψ μ σ H d e x y Q m rx ry p
  unfold fIsN at p
  split at p
  · exact ⟨ry, by rw [isN_rp rx]; exact p _ _ _ .refl m rfl⟩
  · exact p.elim
theorem os_notN {K : PySem.W.Frag} {mg : Str → Option Value} : OpS K mg fNotN (fun x y H Q => y = .non ∧ Q (.bl (!decide (x = .non))) H) := by
  intro W φ χ ψ μ σ H d e x y Q m rx ry p
  unfold fNotN at p
  split at p
  · exact ⟨ry, by rw [isN_rp rx]; exact p _ _ _ .refl m rfl⟩
  · exact p.elim
/-! ### in: a list or a tuple of flat things, a sign in a text, a key in a dict -/
def flatD : D → Bool
  | .non => true | .int _ => true | .str _ => true
  | _ => false
def inD (d : D) (l : List D) : Bool := l.any fun e => eqS e d
/-- x in l -/
def isIn (μ : Mem) (d e : D) : Option Bool := match e with
  | .str z => match d with
    | .str w => if w.cps.size = 1 then some (decide (w.cps.getD 0 0 ∈ z.cps.toList)) else none
    | _ => none
  | e => match aseq μ e with
    | some l => if (flatD d && l.all flatD) = true then some (inD d l) else none
    | none => none
def fIn (d e : D) (μ : Mem) : R D := match isIn μ d e with
  | some b => .ok (.bl b) μ
  | none => .stuck
def fNotIn (d e : D) (μ : Mem) : R D := match isIn μ d e with
  | some b => .ok (.bl (!b)) μ
  | none => .stuck
theorem flat_rp {K : PySem.W.Frag} {φ χ : List Addr} {H : Hp} {d : D} {x : V} (r : Rp K φ χ H d x) (h : flatD d = true) : flatV x = true := by
  cases d <;> first | (cases h; done) | (cases r; rfl)
theorem flats_rp {K : PySem.W.Frag} {φ χ : List Addr} {H : Hp} : ∀ {l : List D} {xs : List V}, RpL K φ χ H l xs → l.all flatD = true → xs.all flatV = true
  | [], _, r, _ => by cases r; rfl
  | d :: l, _, r, h => by
    obtain ⟨x, q, rfl, r1, r2⟩ := r
    simp only [List.all_cons, Bool.and_eq_true] at h ⊢
    exact ⟨flat_rp r1 h.1, flats_rp r2 h.2⟩
theorem eqS_rp {K : PySem.W.Frag} {φ χ : List Addr} {H : Hp} {d e : D} {x y : V} (rx : Rp K φ χ H d x) (ry : Rp K φ χ H e y) (hd : flatD d = true) (he : flatD e = true) : eqV x y = eqS d e := by
  cases d <;> first | (cases hd; done) | (cases e <;> first | (cases he; done) | (cases rx; cases ry; first | rfl | (simp [eqV, eqS]; done)))
theorem inD_rp {K : PySem.W.Frag} {φ χ : List Addr} {H : Hp} {d : D} {x : V} (rx : Rp K φ χ H d x) (hd : flatD d = true) : ∀ {l : List D} {xs : List V}, RpL K φ χ H l xs → l.all flatD = true → inV x xs = inD d l
  | [], _, r, _ => by cases r; rfl
  | e :: l, _, r, h => by
    obtain ⟨y, q, rfl, r1, r2⟩ := r
    simp only [List.all_cons, Bool.and_eq_true] at h
    have ih := inD_rp rx hd r2 h.2
    unfold inV inD at ih ⊢
    rw [List.any_cons, List.any_cons, ih, eqS_rp r1 rx h.1 hd]
def rInF (K : PySem.W.Frag) : R2 := fun x y H Q => rIn K false x y H Q ∨ (∃ (c : Nat) (z : Str), x = .str ⟨#[c]⟩ ∧ y = .str z ∧ Q (.bl (decide (c ∈ z.cps.toList))) H)
def rNotInF (K : PySem.W.Frag) : R2 := fun x y H Q => rIn K true x y H Q ∨ (∃ (c : Nat) (z : Str), x = .str ⟨#[c]⟩ ∧ y = .str z ∧ Q (.bl (!decide (c ∈ z.cps.toList))) H)
theorem or_in {X : Cx} : OpR X (compareOp .In) (rInF X.K) := op_in_seq.or op_in_sign
theorem or_notIn {X : Cx} : OpR X (compareOp .NotIn) (rNotInF X.K) := op_notIn_seq.or op_notIn_sign
theorem one_sign {w : Str} (h : w.cps.size = 1) : w = ⟨#[w.cps.getD 0 0]⟩ := by
  obtain ⟨⟨l⟩⟩ := w
  match l, h with
  | [c], _ => rfl
theorem isIn_rp {K : PySem.W.Frag} {mg : Str → Option Value} {φ χ ψ : List Addr} {H : Hp} {μ : Mem} {d e : D} {x y : V} {b : Bool} (m : MemOk K mg φ (χ ++ ψ) μ H) (rx : Rp K φ χ H d x) (ry : Rp K φ χ H e y) (h : isIn μ d e = some b) :
    (∃ p xs, y = .ref p ∧ (SqL K H p xs ∨ SqT K H p xs) ∧ flatV x = true ∧ xs.all flatV = true ∧ inV x xs = b) ∨ (∃ (c : Nat) (z : Str), x = .str ⟨#[c]⟩ ∧ y = .str z ∧ decide (c ∈ z.cps.toList) = b) := by
  by_cases hs : ∃ z, e = .str z
  · obtain ⟨z, rfl⟩ := hs
    unfold isIn at h
    simp only at h
    split at h
    · rename_i w
      split at h
      · rename_i h1
        cases h
        cases rx; cases ry
        exact .inr ⟨_, _, by rw [← one_sign h1], rfl, rfl⟩
      · cases h
    · cases h
  · have h' : (match aseq μ e with
      | some l => if (flatD d && l.all flatD) = true then some (inD d l) else none
      | none => none) = some b := by
      cases e with
      | str z => exact absurd ⟨z, rfl⟩ hs
      | _ => exact h
    split at h'
    · rename_i l hl
      split at h'
      · rename_i hf
        simp only [Bool.and_eq_true] at hf
        cases h'
        obtain ⟨a, xs, rfl, hq, q⟩ := aseq_rp m ry hl
        exact .inl ⟨a, xs, rfl, hq, flat_rp rx hf.1, flats_rp q hf.2, inD_rp rx hf.1 q hf.2⟩
      · cases h'
    · cases h'
theorem os_in {K : PySem.W.Frag} {mg : Str → Option Value} : OpS K mg fIn (rInF K) := by
  intro W φ χ ψ μ σ H d e x y Q m rx ry p
  unfold fIn at p
  split at p
  · rename_i b hb
    rcases isIn_rp m rx ry hb with ⟨a, xs, h1, h2, h3, h4, h5⟩ | ⟨c, z, h1, h2, h3⟩
    · exact .inl ⟨a, xs, h1, h2, h3, h4, by rw [if_neg Bool.false_ne_true, h5]; exact p _ _ _ .refl m rfl⟩
    · exact .inr ⟨c, z, h1, h2, by rw [h3]; exact p _ _ _ .refl m rfl⟩
  · exact p.elim
theorem os_notIn {K : PySem.W.Frag} {mg : Str → Option Value} : OpS K mg fNotIn (rNotInF K) := by
  intro W φ χ ψ μ σ H d e x y Q m rx ry p
  unfold fNotIn at p
  split at p
  · rename_i b hb
    rcases isIn_rp m rx ry hb with ⟨a, xs, h1, h2, h3, h4, h5⟩ | ⟨c, z, h1, h2, h3⟩
    · exact .inl ⟨a, xs, h1, h2, h3, h4, by rw [if_pos rfl, h5]; exact p _ _ _ .refl m rfl⟩
    · exact .inr ⟨c, z, h1, h2, by rw [h3]; exact p _ _ _ .refl m rfl⟩
  · exact p.elim
end FP
/-! Core3: truth, chains, subscripts, built-in calls, isinstance. -/
namespace FP
open PySem PySem.Spec L2
open PyProof.Rows hiding St

/-! ### and, or, not, if -/
def bAnd (a b : MB) : MB := fun η μ => (a η μ).bind fun x μ1 => if x = true then b η μ1 else .ok false μ1
def bOr (a b : MB) : MB := fun η μ => (a η μ).bind fun x μ1 => if x = true then .ok true μ1 else b η μ1
def bNot (a : MB) : MB := fun η μ => (a η μ).bind fun x μ1 => .ok (!x) μ1
def mOfB (a : MB) : MV := fun η μ => (a η μ).bind fun x μ1 => .ok (.bl x) μ1
def mIf (c : MB) (a b : MV) : MV := fun η μ => (c η μ).bind fun x μ1 => if x = true then a η μ1 else b η μ1
/-- and, or of values that are truths -/
def mAnd (a b : MV) : MV := fun η μ => (a η μ).bind fun d μ1 => match d with
  | .bl true => b η μ1
  | .bl false => .ok (.bl false) μ1
  | _ => .stuck
def mOr (a b : MV) : MV := fun η μ => (a η μ).bind fun d μ1 => match d with
  | .bl false => b η μ1
  | .bl true => .ok (.bl true) μ1
  | _ => .stuck
def mNot (a : MV) : MV := fun η μ => (a η μ).bind fun d μ1 => match d with
  | .bl b => .ok (.bl (!b)) μ1
  | _ => .stuck
section
variable {X : Cx} {W : WX} {a b c : Expr} {rest : List Expr} {pos : Pos} {ma mb mc : MV} {ta tb : MB}
theorem ww_and1 (h : TT' X W a ta) : WW X W (.BoolOp .And [a] pos) ta := pw_and1 h
theorem ww_or1 (h : TT' X W a ta) : WW X W (.BoolOp .Or [a] pos) ta := pw_or1 h
theorem ww_and (h : TT' X W a ta) (h2 : WW X W (.BoolOp .And (b :: rest) pos) tb) : WW X W (.BoolOp .And (a :: b :: rest) pos) (bAnd ta tb) := (pw_and h h2).imp fun σ H Q q => by
  obtain ⟨φ, χ, ψ, μ, η, rl, p⟩ := q
  refine rd_bind rl p fun φ1 H1 μ1 d x g1 r1 rx p1 => ?_
  cases rx
  cases d with
  | true => exact ⟨φ1, χ, ψ, μ1, η, r1, p1⟩
  | false => exact p1 _ _ _ .refl r1.mem rfl
theorem ww_or (h : TT' X W a ta) (h2 : WW X W (.BoolOp .Or (b :: rest) pos) tb) : WW X W (.BoolOp .Or (a :: b :: rest) pos) (bOr ta tb) := (pw_or h h2).imp fun σ H Q q => by
  obtain ⟨φ, χ, ψ, μ, η, rl, p⟩ := q
  refine rd_bind rl p fun φ1 H1 μ1 d x g1 r1 rx p1 => ?_
  cases rx
  cases d with
  | true => exact p1 _ _ _ .refl r1.mem rfl
  | false => exact ⟨φ1, χ, ψ, μ1, η, r1, p1⟩
theorem tt_of {e : Expr} (h : WW X W e ta) : TT' X W e ta := h.pt
theorem tt_not (h : TT' X W a ta) : TT' X W (.UnaryOp .Not a pos) (bNot ta) := (pt_not h).imp fun σ H Q q => by
  obtain ⟨φ, χ, ψ, μ, η, rl, p⟩ := q
  refine rd_bind rl p fun φ1 H1 μ1 d x g1 r1 rx p1 => ?_
  cases rx
  exact p1 _ _ _ .refl r1.mem rfl
theorem ee_if (h : TT' X W c ta) (h1 : EE X W a ma) (h2 : EE X W b mb) : EE X W (.IfExp c a b pos) (mIf ta ma mb) := (pe_ifExp h h1 h2).imp fun σ H Q q => by
  obtain ⟨φ, χ, ψ, μ, η, rl, p⟩ := q
  refine rd_bind rl p fun φ1 H1 μ1 d x g1 r1 rx p1 => ?_
  cases rx
  cases d with
  | true => exact ⟨φ1, χ, ψ, μ1, η, r1, p1⟩
  | false => exact ⟨φ1, χ, ψ, μ1, η, r1, p1⟩
theorem ee_one {op} (h : EE X W a ma) : EE X W (.BoolOp op [a] pos) ma := pe_one h
theorem ee_and (h : EE X W a ma) (h2 : EE X W (.BoolOp .And (b :: rest) pos) mb) : EE X W (.BoolOp .And (a :: b :: rest) pos) (mAnd ma mb) := (pe_and h h2).imp fun σ H Q q => by
  obtain ⟨φ, χ, ψ, μ, η, rl, p⟩ := q
  refine rd_bind rl p fun φ1 H1 μ1 d x g1 r1 rx p1 => ?_
  split at p1
  · exact ⟨true, rx, by rw [if_pos rfl]; exact ⟨φ1, χ, ψ, μ1, η, r1, p1⟩⟩
  · exact ⟨false, rx, by rw [if_neg Bool.false_ne_true]; exact p1 _ _ _ .refl r1.mem rfl⟩
  · exact p1.elim
theorem ee_or (h : EE X W a ma) (h2 : EE X W (.BoolOp .Or (b :: rest) pos) mb) : EE X W (.BoolOp .Or (a :: b :: rest) pos) (mOr ma mb) := (pe_or h h2).imp fun σ H Q q => by
  obtain ⟨φ, χ, ψ, μ, η, rl, p⟩ := q
  refine rd_bind rl p fun φ1 H1 μ1 d x g1 r1 rx p1 => ?_
  split at p1
  · exact ⟨false, rx, by rw [if_neg Bool.false_ne_true]; exact ⟨φ1, χ, ψ, μ1, η, r1, p1⟩⟩
  · exact ⟨true, rx, by rw [if_pos rfl]; exact p1 _ _ _ .refl r1.mem rfl⟩
  · exact p1.elim
theorem ee_not (h : EE X W a ma) : EE X W (.UnaryOp .Not a pos) (mNot ma) := (pe_not h).imp fun σ H Q q => by
  obtain ⟨φ, χ, ψ, μ, η, rl, p⟩ := q
  refine rd_bind rl p fun φ1 H1 μ1 d x g1 r1 rx p1 => ?_
  split at p1
  · exact ⟨_, rx, p1 _ _ _ .refl r1.mem rfl⟩
  · exact p1.elim
/-! ### a < b <= c -/
def mChain (f g : D → D → Mem → R D) (a b c : MV) : MV := fun η μ => (a η μ).bind fun x μ1 => (b η μ1).bind fun y μ2 => (f x y μ2).bind fun z μ3 => match z with
  | .bl true => (c η μ3).bind fun w μ4 => g y w μ4
  | .bl false => .ok (.bl false) μ3
  | _ => .stuck
theorem rd_chain {f g : D → D → Mem → R D} {r r' : R2} {σ : L2.St} {H : Hp} {Q : VK} (hr : OpS X.K X.mg f r) (hf : ∀ d e μ, f d e μ = .stuck ∨ ∃ b, f d e μ = .ok (.bl b) μ) (hr' : OpS X.K X.mg g r') (q : rd X.K X.mg W (rV X.K) (mChain f g ma mb mc) σ H Q) :
    tChain r r' (rd X.K X.mg W (rV X.K) ma) (rd X.K X.mg W (rV X.K) mb) (rd X.K X.mg W (rV X.K) mc) σ H Q := by
  obtain ⟨φ, χ, ψ, μ, η, rl, p⟩ := q
  refine rd_bind rl p fun φ1 H1 μ1 d x g1 r1 rx p1 => ?_
  refine rd_bind r1 p1 fun φ2 H2 μ2 e y g2 r2 ry p2 => ?_
  rcases hf d e μ2 with h | ⟨b, h⟩
  · rw [h] at p2; exact p2.elim
  · rw [h] at p2
    refine hr W φ2 χ ψ μ2 σ H2 d e x y _ r2.mem (g2.rp rx) ry ?_
    rw [h]
    intro v φ3 H3 g3 m3 rv
    refine ⟨b, rv, ?_⟩
    cases b with
    | true =>
      rw [if_pos rfl]
      refine rd_bind (r2.go g3 m3) (p2.go g3) fun φ4 H4 μ4 w z g4 r4 rz p4 => ?_
      exact hr' W φ4 χ ψ μ4 σ H4 e w y z Q r4.mem (g4.rp (g3.rp ry)) rz p4
    | false =>
      rw [if_neg Bool.false_ne_true]
      exact p2 _ φ3 H3 g3 m3 rfl
theorem ee_chain {op op' : CmpOp} {f g : D → D → Mem → R D} {r r' : R2} (ho : OpR X (compareOp op) r) (hr : OpS X.K X.mg f r) (hf : ∀ d e μ, f d e μ = .stuck ∨ ∃ b, f d e μ = .ok (.bl b) μ) (ho' : OpR X (compareOp op') r') (hr' : OpS X.K X.mg g r')
    (ha : EE X W a ma) (hb : EE X W b mb) (hc : EE X W c mc) (hm : lastMarks [op, op'] [b, c] = false := by with_unfolding_all rfl) : EE X W (.Compare a [op, op'] [b, c] pos) (mChain f g ma mb mc) :=
  (pe_chain ho ho' ha hb hc hm).imp fun _ _ _ q => rd_chain hr hf hr' q
theorem tt_chain {op op' : CmpOp} {f g : D → D → Mem → R D} {r r' : R2} (ho : OpR X (compareOp op) r) (hr : OpS X.K X.mg f r) (hf : ∀ d e μ, f d e μ = .stuck ∨ ∃ b, f d e μ = .ok (.bl b) μ) (ho' : OpR X (compareOp op') r') (hr' : OpS X.K X.mg g r')
    (ha : EE X W a ma) (hb : EE X W b mb) (hc : EE X W c mc) (hm : lastMarks [op, op'] [b, c] = false := by with_unfolding_all rfl) : TT' X W (.Compare a [op, op'] [b, c] pos) (mTst (mChain f g ma mb mc)) :=
  (pt_chain ho ho' ha hb hc hm).imp fun _ _ _ q => rd_chain hr hf hr' (rd_tst q)
theorem cmp_bl {pI : Int → Int → Bool} {pS : Str → Str → Bool} : ∀ d e μ, fCmp pI pS d e μ = .stuck ∨ ∃ b, fCmp pI pS d e μ = .ok (.bl b) μ := by
  intro d e μ
  unfold fCmp
  split
  · exact .inr ⟨_, rfl⟩
  · exact .inr ⟨_, rfl⟩
  · exact .inl rfl
end

/-! ### subscripts -/
/-- the place that an index names -/
def atD {α : Type} (l : List α) (i : Int) : Option α := if 0 ≤ i then l[i.toNat]? else if -(l.length : Int) ≤ i then l[(i + l.length).toNat]? else none
theorem atD_atI {α : Type} (l : List α) (i : Int) : atI l i = atD l i := by
  unfold atI ixN atD
  split
  · rename_i h
    split
    · rfl
    · rename_i h2
      symm
      exact List.getElem?_eq_none_iff.mpr (by omega)
  · split <;> rfl
theorem atD_rp {K : PySem.W.Frag} {φ ψ : List Addr} {H : Hp} {ds : List D} {xs : List V} {i : Int} {d : D} (r : RpL K φ ψ H ds xs) (h : atD ds i = some d) : ∃ v, atI xs i = some v ∧ Rp K φ ψ H d v := by
  rw [atD_atI]
  unfold atD at h ⊢
  rw [r.length]
  by_cases c : 0 ≤ i
  · rw [if_pos c] at h ⊢; exact r.get h
  · rw [if_neg c] at h ⊢
    by_cases c2 : -(ds.length : Int) ≤ i
    · rw [if_pos c2] at h ⊢; exact r.get h
    · rw [if_neg c2] at h; cases h
def fIx (o i : D) (μ : Mem) : R D := match i with
  | .int k => match o with
    | .str z => if z.length ≤ 10000000 then match atD z.cps.toList k with
      | some c => .ok (.str ⟨#[c]⟩) μ
      | none => .stuck else .stuck
    | o => match aseq μ o with
      | some l => match atD l k with
        | some d => .ok d μ
        | none => .stuck
      | none => .stuck
  | _ => .stuck
theorem os_ix {K : PySem.W.Frag} {mg : Str → Option Value} : OpS K mg fIx (rIx K) := by
  intro W φ χ ψ μ σ H d e x y Q m rx ry p
  unfold fIx at p
  split at p
  · rename_i k
    cases ry
    split at p
    · rename_i z
      cases rx
      obtain ⟨c, p⟩ := p.ite
      split at p
      · rename_i w hw
        exact .inr (.inr ⟨z, k, w, rfl, rfl, line_le c, by rw [atD_atI]; exact hw, p _ _ _ .refl m rfl⟩)
      · exact p.elim
    · split at p
      · rename_i l hl
        split at p
        · rename_i u hu
          obtain ⟨a, xs, rfl, hq, q⟩ := aseq_rp m rx hl
          obtain ⟨v, hv, rv⟩ := atD_rp q hu
          rcases hq with hq | hq
          · exact .inl ⟨a, xs, k, v, rfl, rfl, hq, hv, p _ _ _ .refl m rv⟩
          · exact .inr (.inl ⟨a, xs, k, v, rfl, rfl, hq, hv, p _ _ _ .refl m rv⟩)
        · exact p.elim
      · exact p.elim
  · exact p.elim
theorem ee_ix {X : Cx} {W : WX} {a b : Expr} {ma mb : MV} {pos : Pos} (ha : EE X W a ma) (hb : EE X W b mb) (hs : PlainIx b := by intro _ _; rfl) : EE X W (.Subscript a b pos) (mOp fIx ma mb) := (pe_ix ix_seq ha hb hs).imp fun _ _ _ q => rd_op os_ix q
/-! slices -/
def cutD {α : Type} (l : List α) (lo hi : Option Int) : List α := (l.drop (HT.sIx l.length 0 lo)).take (HT.sIx l.length l.length hi - HT.sIx l.length 0 lo)
abbrev MO := Env' → Mem → R (Option Int)
def oNone : MO := fun _ μ => .ok none μ
def oSome (m : MV) : MO := fun η μ => (m η μ).bind fun d μ1 => match d with
  | .int i => .ok (some i) μ1
  | _ => .stuck
abbrev rO : List Addr → List Addr → List Addr → Hp → Option Int → Option Int → Prop := fun _ _ _ _ a b => a = b
abbrev OO (X : Cx) (W : WX) (e : Option Expr) (m : MO) : Prop := PO X e (rd X.K X.mg W rO m)
theorem _root_.L2.PO.imp {X : Cx} {e : Option Expr} {t u : TO} (h : PO X e t) (f : ∀ σ H Q, u σ H Q → t σ H Q) : PO X e u := ⟨fun pins s σ H Q I q => h.run pins s σ H Q I (f σ H Q q)⟩
theorem oo_none {X : Cx} {W : WX} : OO X W none oNone := po_none.imp fun σ H Q q => by
  obtain ⟨φ, χ, ψ, μ, η, rl, p⟩ := q
  exact p _ _ _ .refl rl.mem rfl
theorem oo_some {X : Cx} {W : WX} {e : Expr} {m : MV} (h : EE X W e m) : OO X W (some e) (oSome m) := (po_some h).imp fun σ H Q q => by
  obtain ⟨φ, χ, ψ, μ, η, rl, p⟩ := q
  refine rd_bind rl p fun φ1 H1 μ1 d x g1 r1 rx p1 => ?_
  split at p1
  · exact ⟨_, rx, p1 _ _ _ .refl r1.mem rfl⟩
  · exact p1.elim
def fSl (o : D) (lo hi : Option Int) (μ : Mem) : R D := match o with
  | .str z => if z.length ≤ 10000000 then .ok (.str (cutS z lo hi)) μ else .stuck
  | .tup l => .ok (.tup (cutD l lo hi)) μ
  | .ptu l => .ok (.tup (cutD l lo hi)) μ
  | o => match lseq μ o with
    | some l => .ok (.lst (cutD l lo hi)) μ
    | none => .stuck
def mSl (a : MV) (lo hi : MO) : MV := fun η μ => (a η μ).bind fun o μ1 => (lo η μ1).bind fun l μ2 => (hi η μ2).bind fun h μ3 => fSl o l h μ3
theorem cut_rp {K : PySem.W.Frag} {φ ψ : List Addr} {H : Hp} {ds : List D} {xs : List V} {lo hi : Option Int} (r : RpL K φ ψ H ds xs) : RpL K φ ψ H (cutD ds lo hi) (cutV xs lo hi) := by
  unfold cutD cutV
  rw [r.length]
  exact (r.drop _).take _
def rSlF (K : PySem.W.Frag) : V → Option Int → Option Int → Hp → VK → Prop := fun x lo hi H Q => rSlS x lo hi H Q ∨ rSlA K x lo hi H Q ∨ rSlL K x lo hi H Q
theorem sl_any {X : Cx} : SlR X (rSlF X.K) := sl_str.or (sl_tupA.or sl_list)
theorem fSl_rp {K : PySem.W.Frag} {mg : Str → Option Value} {W : WX} {σ : L2.St} {φ χ ψ : List Addr} {H : Hp} {μ : Mem} {o : D} {x : V} {lo hi : Option Int} {Q : VK} (m : MemOk K mg φ (χ ++ ψ) μ H) (rx : Rp K φ χ H o x) (p : Post K mg W (rV K) σ φ χ ψ H (fSl o lo hi μ) Q) : rSlF K x lo hi H Q := by
  unfold fSl at p
  split at p
  · rename_i z
    cases rx
    obtain ⟨c, p⟩ := p.ite
    exact .inl ⟨z, rfl, line_le c, p _ _ _ .refl m rfl⟩
  · rename_i l
    obtain ⟨a, xs, rfl, hq, q⟩ := rx
    refine .inr (.inl ⟨a, xs, rfl, hq, fun w => ?_, fun _ t ht => ?_⟩)
    · refine p _ _ _ .refl m ⟨a, xs, rfl, hq, ?_⟩
      have e : cutV xs lo hi = xs := by
        unfold cutV
        rw [w.1, w.2, List.drop_zero, Nat.sub_zero, List.take_length]
      rw [← e]; exact cut_rp q
    · have g : Go φ H φ (upd H t (.tup (cutV xs lo hi))) := .new ht
      exact p _ _ _ g (m.new ht) ⟨t, _, rfl, .of upd_same, g.rpL (cut_rp q)⟩
  · rename_i l
    obtain ⟨a, xs, rfl, ⟨o, hq0, _⟩, q⟩ := rx
    have hq : SqT K H a xs := .inl (.inr ⟨o, hq0⟩)
    refine .inr (.inl ⟨a, xs, rfl, hq, fun w => ?_, fun _ t ht => ?_⟩)
    · refine p _ _ _ .refl m ⟨a, xs, rfl, hq, ?_⟩
      have e : cutV xs lo hi = xs := by
        unfold cutV
        rw [w.1, w.2, List.drop_zero, Nat.sub_zero, List.take_length]
      rw [← e]; exact cut_rp q
    · have g : Go φ H φ (upd H t (.tup (cutV xs lo hi))) := .new ht
      exact p _ _ _ g (m.new ht) ⟨t, _, rfl, .of upd_same, g.rpL (cut_rp q)⟩
  · split at p
    · rename_i l hl
      obtain ⟨a, xs, rfl, hq, q⟩ := lseq_rp m rx hl
      refine .inr (.inr ⟨a, xs, rfl, hq, fun t ht => ?_⟩)
      have g : Go φ H φ (upd H t (.lst (cutV xs lo hi))) := .new ht
      exact p _ _ _ g (m.new ht) ⟨t, _, rfl, ⟨Gr.notin m ht, Gr.offχ m ht⟩, upd_same, g.rpL (cut_rp q)⟩
    · exact p.elim
theorem ee_sl {X : Cx} {W : WX} {a : Expr} {lo hi : Option Expr} {ma : MV} {ml mh : MO} {p2 pos : Pos} (ha : EE X W a ma) (hl : OO X W lo ml) (hh : OO X W hi mh) : EE X W (.Subscript a (.Slice lo hi none p2) pos) (mSl ma ml mh) := (pe_slice sl_any ha hl hh).imp fun σ H Q q => by
  obtain ⟨φ, χ, ψ, μ, η, rl, p⟩ := q
  refine rd_bind rl p fun φ1 H1 μ1 d x g1 r1 rx p1 => ?_
  refine rd_bind r1 p1 fun φ2 H2 μ2 l l' g2 r2 rl p2 => ?_
  cases rl
  refine rd_bind r2 p2 fun φ3 H3 μ3 h h' g3 r3 rh p3 => ?_
  cases rh
  exact fSl_rp r3.mem (g3.rp (g2.rp rx)) p3

/-! ### calls of built-ins -/
def mCall (f : List D → Mem → R D) (ms : ML) : MV := fun η μ => (ms η μ).bind fun ds μ1 => f ds μ1
def CallS (K : PySem.W.Frag) (mg : Str → Option Value) (f : List D → Mem → R D) (r : List V → Hp → VK → Prop) : Prop :=
  ∀ (W : WX) (φ χ ψ : List Addr) (μ : Mem) (σ : L2.St) (H : Hp) (ds : List D) (xs : List V) (Q : VK), MemOk K mg φ (χ ++ ψ) μ H → RpL K φ χ H ds xs → Post K mg W (rV K) σ φ χ ψ H (f ds μ) Q → r xs H Q
theorem rd_call {K : PySem.W.Frag} {mg : Str → Option Value} {W : WX} {f : List D → Mem → R D} {r : List V → Hp → VK → Prop} {ms : ML} {σ : L2.St} {H : Hp} {Q : VK} (hr : CallS K mg f r) (q : rd K mg W (rV K) (mCall f ms) σ H Q) : tCB r (rd K mg W (rL K) ms) σ H Q := by
  obtain ⟨φ, χ, ψ, μ, η, rl, p⟩ := q
  refine rd_bind rl p fun φ1 H1 μ1 d x g1 r1 rx p1 => ?_
  exact hr W φ1 χ ψ μ1 σ H1 d x Q r1.mem rx p1
section
variable {X : Cx} {W : WX} {f : List D → Mem → R D} {r : List V → Hp → VK → Prop} {e : Expr} {es : List Expr} {ms : ML} {x : Str} {id T : String} {p pos : Pos}
theorem ee_callB (hc : CallR X (.builtin id) r) (hr : CallS X.K X.mg f r) (hm : X.mg x = none) (ha : AA X W (e :: es) ms) (hv : bootBuiltins x = some (.builtin id) := by decide +kernel) (hg : Gl X x := by rfl) (hn : x ≠ "__name__" := by decide) (hdb : (x == ("__debug__" : Str)) = false := by decide)
    (he : starEach (e :: es) X.env = (false, eval e X.env) :: starEach es X.env := by rfl) (hpl : (backTo pos (starEach es X.env)).any (·.1) = false := by rfl) : EE X W (.Call (.Name x p) (e :: es) [] pos) (mCall f ms) :=
  (pe_callB hc hg hm hv ha hn hdb he hpl).imp fun _ _ _ q => rd_call hr q
theorem ee_callTy (hc : CallR X (.type T) r) (hr : CallS X.K X.mg f r) (hm : X.mg x = none) (ha : AA X W (e :: es) ms) (hv : bootBuiltins x = some (.type T) := by decide +kernel) (hg : Gl X x := by rfl) (hn : x ≠ "__name__" := by decide) (hdb : (x == ("__debug__" : Str)) = false := by decide)
    (he : starEach (e :: es) X.env = (false, eval e X.env) :: starEach es X.env := by rfl) (hpl : (backTo pos (starEach es X.env)).any (·.1) = false := by rfl) : EE X W (.Call (.Name x p) (e :: es) [] pos) (mCall f ms) :=
  (pe_callTy hc hg hm hv ha hn hdb he hpl).imp fun _ _ _ q => rd_call hr q
end
section
variable {K : PySem.W.Frag} {mg : Str → Option Value}
theorem RpL.one {φ ψ : List Addr} {H : Hp} {d : D} {xs : List V} (r : RpL K φ ψ H [d] xs) : ∃ x, xs = [x] ∧ Rp K φ ψ H d x := by
  obtain ⟨x, q, rfl, h, rfl⟩ := r
  exact ⟨x, rfl, h⟩
theorem RpL.two {φ ψ : List Addr} {H : Hp} {d e : D} {xs : List V} (r : RpL K φ ψ H [d, e] xs) : ∃ x y, xs = [x, y] ∧ Rp K φ ψ H d x ∧ Rp K φ ψ H e y := by
  obtain ⟨x, q, rfl, h, r⟩ := r
  obtain ⟨y, rfl, h2⟩ := r.one
  exact ⟨x, y, rfl, h, h2⟩
/-- len -/
def fLen (ds : List D) (μ : Mem) : R D := match ds with
  | [.str z] => if z.length ≤ 10000000 then .ok (.int (z.length : Nat)) μ else .stuck
  | [d] => match aseq μ d with
    | some l => .ok (.int (l.length : Nat)) μ
    | none => .stuck
  | _ => .stuck
theorem cs_len : CallS K mg fLen (fun xs H Q => ∃ x n, xs = [x] ∧ LenV K x H n ∧ Q (.int n) H) := by
  intro W φ χ ψ μ σ H ds xs Q m r p
  unfold fLen at p
  split at p
  · obtain ⟨c, p⟩ := p.ite
    obtain ⟨x, rfl, rx⟩ := r.one
    cases rx
    exact ⟨_, _, rfl, ⟨line_le c, rfl⟩, p _ _ _ .refl m rfl⟩
  · split at p
    · rename_i l hl
      obtain ⟨x, rfl, rx⟩ := r.one
      obtain ⟨a, ys, rfl, hq, q⟩ := aseq_rp m rx hl
      refine ⟨_, l.length, rfl, ?_, p _ _ _ .refl m rfl⟩
      rcases hq with hq | hq
      · exact .inl ⟨ys, hq, q.length.symm⟩
      · exact .inr ⟨ys, hq, q.length.symm⟩
    · exact p.elim
  · exact p.elim
/-- abs -/
def fAbs (ds : List D) (μ : Mem) : R D := match ds with
  | [.int i] => .ok (.int (if i < 0 then -i else i)) μ
  | _ => .stuck
theorem cs_abs : CallS K mg fAbs (fun xs H Q => ∃ i, xs = [.int i] ∧ Q (.int (if i < 0 then -i else i)) H) := by
  intro W φ χ ψ μ σ H ds xs Q m r p
  unfold fAbs at p
  split at p
  · obtain ⟨x, rfl, rx⟩ := r.one
    cases rx
    exact ⟨_, rfl, p _ _ _ .refl m rfl⟩
  · exact p.elim
/-- int of an int, of a truth -/
def fInt (ds : List D) (μ : Mem) : R D := match ds with
  | [.int i] => .ok (.int i) μ
  | [.bl b] => .ok (.int (if b then 1 else 0)) μ
  | _ => .stuck
theorem cs_int : CallS K mg fInt (fun xs H Q => (∃ i, xs = [.int i] ∧ Q (.int i) H) ∨ ∃ k, xs = [.bl k] ∧ Q (.int (if k then 1 else 0)) H) := by
  intro W φ χ ψ μ σ H ds xs Q m r p
  unfold fInt at p
  split at p
  · obtain ⟨x, rfl, rx⟩ := r.one
    cases rx
    exact .inl ⟨_, rfl, p _ _ _ .refl m rfl⟩
  · obtain ⟨x, rfl, rx⟩ := r.one
    cases rx
    exact .inr ⟨_, rfl, p _ _ _ .refl m rfl⟩
  · exact p.elim
/-- tuple of a list, of a tuple -/
def fTuple (ds : List D) (μ : Mem) : R D := match ds with
  | [d] => match aseq μ d with
    | some l => .ok (.tup l) μ
    | none => .stuck
  | _ => .stuck
theorem cs_tuple : CallS K mg fTuple (fun xs H Q => ∃ p ys, xs = [.ref p] ∧ ((SqL K H p ys ∧ ∀ l, H l = none → Q (.ref l) (upd H l (.tup ys))) ∨ (SqT K H p ys ∧ Q (.ref p) H))) := by
  intro W φ χ ψ μ σ H ds xs Q m r p
  unfold fTuple at p
  split at p
  · split at p
    · rename_i l hl
      obtain ⟨x, rfl, rx⟩ := r.one
      obtain ⟨a, ys, rfl, hq, q⟩ := aseq_rp m rx hl
      refine ⟨a, ys, rfl, ?_⟩
      rcases hq with hq | hq
      · refine .inl ⟨hq, fun t ht => ?_⟩
        have g : Go φ H φ (upd H t (.tup ys)) := .new ht
        exact p _ _ _ g (m.new ht) ⟨t, _, rfl, .of upd_same, g.rpL q⟩
      · exact .inr ⟨hq, p _ _ _ .refl m ⟨a, ys, rfl, hq, q⟩⟩
    · exact p.elim
  · exact p.elim
/-- list of a list, of a tuple -/
def fList (ds : List D) (μ : Mem) : R D := match ds with
  | [d] => match aseq μ d with
    | some l => .ok (.lst l) μ
    | none => .stuck
  | _ => .stuck
theorem cs_list : CallS K mg fList (fun xs H Q => ∃ p ys, xs = [.ref p] ∧ (SqL K H p ys ∨ SqT K H p ys) ∧ ∀ l, H l = none → Q (.ref l) (upd H l (.lst ys))) := by
  intro W φ χ ψ μ σ H ds xs Q m r p
  unfold fList at p
  split at p
  · split at p
    · rename_i l hl
      obtain ⟨x, rfl, rx⟩ := r.one
      obtain ⟨a, ys, rfl, hq, q⟩ := aseq_rp m rx hl
      refine ⟨a, ys, rfl, hq, fun t ht => ?_⟩
      have g : Go φ H φ (upd H t (.lst ys)) := .new ht
      exact p _ _ _ g (m.new ht) ⟨t, _, rfl, ⟨Gr.notin m ht, Gr.offχ m ht⟩, upd_same, g.rpL q⟩
    · exact p.elim
  · exact p.elim
/-- all, any of a list of truths -/
def allBl : List D → Option (List Bool)
  | [] => some []
  | .bl b :: l => (allBl l).map (b :: ·)
  | _ => none
theorem allBl_rp {φ ψ : List Addr} {H : Hp} : ∀ {ds : List D} {xs : List V} {bs : List Bool}, RpL K φ ψ H ds xs → allBl ds = some bs → xs = bs.map V.bl
  | [], _, _, r, h => by cases h; cases r; rfl
  | .bl b :: l, _, _, r, h => by
    obtain ⟨x, q, rfl, r1, r2⟩ := r
    unfold allBl at h
    cases hl : allBl l with
    | none => rw [hl] at h; cases h
    | some bs =>
      rw [hl] at h
      cases h
      cases r1
      rw [allBl_rp r2 hl]
      rfl
  | .non :: _, _, _, _, h => by cases h
  | .int _ :: _, _, _, _, h => by cases h
  | .str _ :: _, _, _, _, h => by cases h
  | .tup _ :: _, _, _, _, h => by cases h
  | .lst _ :: _, _, _, _, h => by cases h
  | .fro _ :: _, _, _, _, h => by cases h
  | .exn _ _ _ _ :: _, _, _, _, h => by cases h
  | .ptu _ :: _, _, _, _, h => by cases h
  | .dic _ _ :: _, _, _, _, h => by cases h
  | .ptr _ :: _, _, _, _, h => by cases h
def fAll (ds : List D) (μ : Mem) : R D := match ds with
  | [d] => match lseq μ d with
    | some l => match allBl l with
      | some bs => .ok (.bl (bs.all id)) μ
      | none => .stuck
    | none => .stuck
  | _ => .stuck
def fAny (ds : List D) (μ : Mem) : R D := match ds with
  | [d] => match lseq μ d with
    | some l => match allBl l with
      | some bs => .ok (.bl (bs.any id)) μ
      | none => .stuck
    | none => .stuck
  | _ => .stuck
theorem cs_all : CallS K mg fAll (rAll K) := by
  intro W φ χ ψ μ σ H ds xs Q m r p
  unfold fAll at p
  split at p
  · split at p
    · rename_i l hl
      split at p
      · rename_i bs hb
        obtain ⟨x, rfl, rx⟩ := r.one
        obtain ⟨a, ys, rfl, hq, q⟩ := lseq_rp m rx hl
        have e := allBl_rp q hb
        subst e
        exact ⟨a, bs, rfl, hq, p _ _ _ .refl m rfl⟩
      · exact p.elim
    · exact p.elim
  · exact p.elim
theorem cs_any : CallS K mg fAny (rAny K) := by
  intro W φ χ ψ μ σ H ds xs Q m r p
  unfold fAny at p
  split at p
  · split at p
    · rename_i l hl
      split at p
      · rename_i bs hb
        obtain ⟨x, rfl, rx⟩ := r.one
        obtain ⟨a, ys, rfl, hq, q⟩ := lseq_rp m rx hl
        have e := allBl_rp q hb
        subst e
        exact ⟨a, bs, rfl, hq, p _ _ _ .refl m rfl⟩
      · exact p.elim
    · exact p.elim
  · exact p.elim
end
/-! ### isinstance -/
inductive Ty where
  | none | bool | int | str | tuple | list | dict
  deriving DecidableEq
def Ty.name : Ty → String
  | .none => "NoneType" | .bool => "bool" | .int => "int" | .str => "str" | .tuple => "tuple" | .list => "list" | .dict => "dict"
def isi (a b : Ty) : Bool := decide (a = b) || (decide (a = .bool) && decide (b = .int))
theorem kitB_isi (a b : Ty) : kitB a.name b.name = some (isi a b) := by cases a <;> cases b <;> decide +kernel
def tyD (μ : Mem) : D → Option Ty
  | .non => some .none
  | .bl _ => some .bool
  | .int _ => some .int
  | .str _ => some .str
  | .tup _ => some .tuple
  | .lst _ => some .list
  | .fro _ => some .list
  | .ptu _ => some .tuple
  | .dic _ _ => some .dict
  | .ptr k => match μ[k]? with
    | some (.lst _) => some .list
    | some (.dic _ _) => some .dict
    | _ => none
  | .exn _ _ _ _ => none
def mIsi (m : MV) (t : Ty) : MV := fun η μ => (m η μ).bind fun d μ1 => match tyD μ1 d with
  | some u => .ok (.bl (isi u t)) μ1
  | none => .stuck
theorem tyD_rp {K : PySem.W.Frag} {mg : Str → Option Value} {φ χ ψ : List Addr} {H : Hp} {μ : Mem} {d : D} {x : V} {t : Ty} (m : MemOk K mg φ (χ ++ ψ) μ H) (r : Rp K φ χ H d x) (h : tyD μ d = some t) : TyX K H x (.type t.name) := by
  cases d with
  | non => cases h; cases r; exact .base .non
  | bl b => cases h; cases r; exact .base (.bl _)
  | int b => cases h; cases r; exact .base (.int _)
  | str b => cases h; cases r; exact .base (.str _)
  | tup l =>
    cases h
    obtain ⟨a, xs, rfl, (hq | ⟨o, hq⟩) | ⟨o, its, n, h1, h2, h3⟩, _⟩ := r
    · exact .base (.tup hq)
    · exact .fTuple hq
    · exact .kTuple h1 h2
  | lst l =>
    cases h
    obtain ⟨a, xs, rfl, _, hq, _⟩ := r
    exact .base (.lst hq)
  | fro l =>
    cases h
    obtain ⟨a, xs, rfl, ⟨o, hq⟩ | ⟨o, its, n, h1, h2, h3⟩, _⟩ := r
    · exact .base (.frz hq)
    · exact .kList h1 h2
  | exn _ _ _ _ => cases h
  | ptu l =>
    cases h
    obtain ⟨a, xs, rfl, ⟨o, hq, _⟩, _⟩ := r
    exact .fTuple hq
  | dic ks l =>
    cases h
    obtain ⟨a, xs, rfl, _, hq, _⟩ := r
    exact .base (.dK hq)
  | ptr k =>
    unfold tyD at h
    simp only at h
    obtain ⟨a, ha, rfl⟩ := r
    split at h
    · rename_i l hl
      cases h
      obtain ⟨xs, e1, q⟩ := m.ats k _ a hl ha
      exact .base (.lst e1)
    · rename_i ks l hl
      cases h
      obtain ⟨xs, e1, q⟩ := m.ats k _ a hl ha
      exact .base (.dK e1)
    · cases h
theorem ee_isi {X : Cx} {W : WX} {e : Expr} {m : MV} {p p2 pos : Pos} {T : Str} (t : Ty) (h : EE X W e m) (hm : X.mg "isinstance" = none) (hmT : X.mg T = none) (hvT : bootBuiltins T = some (.type t.name) := by decide +kernel)
    (hv : bootBuiltins "isinstance" = some (.builtin "isinstance") := by decide +kernel) (hg : Gl X "isinstance" := by rfl) (hgT : Gl X T := by rfl) (hnT : T ≠ "__name__" := by decide) (hdT : (T == ("__debug__" : Str)) = false := by decide)
    (he : starEach (e :: [.Name T p2]) X.env = (false, eval e X.env) :: starEach [.Name T p2] X.env := by rfl) (he2 : starEach [.Name T p2] X.env = (false, eval (.Name T p2) X.env) :: starEach [] X.env := by rfl)
    (hpl : (backTo pos (starEach [.Name T p2] X.env)).any (·.1) = false := by rfl) : EE X W (.Call (.Name "isinstance" p) [e, .Name T p2] [] pos) (mIsi m t) :=
  (pe_callB call_isi hg hm hv (pa_cons h (pa_cons (pe_bltn (v := .ty t.name) hgT hmT hvT rfl hnT hdT) pa_nil he2) he) (by decide) (by decide) he hpl).imp fun σ H Q q => by
    obtain ⟨φ, χ, ψ, μ, η, rl, p⟩ := q
    refine rd_bind rl p fun φ1 H1 μ1 d x g1 r1 rx p1 => ?_
    split at p1
    · rename_i u hu
      exact ⟨x, .ty t.name, .type u.name, .type t.name, isi u t, rfl, .ty _, tyD_rp r1.mem rx hu, kit_ty (kitB_isi u t), p1 _ _ _ .refl r1.mem rfl⟩
    · exact p1.elim
end FP
/-! Core4: what is walked, targets, comprehensions. -/
namespace FP
open PySem PySem.Spec L2
open PyProof.Rows hiding St

/-! ### what is walked -/
/-- an iterator J gives the items ds; what is walked is no list that may change -/
inductive ItN (K : PySem.W.Frag) (φ χ : List Addr) (H : Hp) : It → List D → Prop where
  | fro {a : Addr} {xs : List V} {ds : List D} (h : FzL K H a xs) (r : RpL K φ χ H ds xs) : ItN K φ χ H (Itl K a) ds
  | tup {a : Addr} {xs : List V} {ds : List D} (h : SqT K H a xs) (r : RpL K φ χ H ds xs) : ItN K φ χ H (Itt K a) ds
  | str (z : Str) : ItN K φ χ H (Its z) (z.cps.toList.map fun c => .str ⟨#[c]⟩)
  | rng (lo : Int) (n : Nat) : ItN K φ χ H (Itr lo n) ((List.range n).map fun i => .int (lo + (i : Nat)))
  | rngC (lo c : Int) (n : Nat) : ItN K φ χ H (Itc lo c n) ((List.range n).map fun i => .int (lo + (i : Nat) * c))
/-- .. or a list at an address that is none of φ, χ and ψ -/
inductive ItB (K : PySem.W.Frag) (φ χ ψ : List Addr) (H : Hp) : It → List D → Prop where
  | lst {a : Addr} {xs : List V} {ds : List D} (n : a ∉ φ) (n2 : a ∉ χ) (n3 : a ∉ ψ) (h : H a = some (.lst xs)) (r : RpL K φ χ H ds xs) : ItB K φ χ ψ H (Itl K a) ds
  | of {J : It} {ds : List D} (h : ItN K φ χ H J ds) : ItB K φ χ ψ H J ds
abbrev MI := Env' → Mem → R (List D)
def rdI (K : PySem.W.Frag) (mg : Str → Option Value) (W : WX) (m : MI) : TI := rd K mg W (fun φ χ _ H ds J => ItB K φ χ [] H J ds) m
abbrev II (X : Cx) (W : WX) (tg it : Expr) (m : MI) : Prop := PI X tg it (rdI X.K X.mg W m)
/-- the items of a value -/
def itemsD : D → Option (List D)
  | .lst l => some l
  | .fro l => some l
  | .tup l => some l
  | .ptu l => some l
  | .str z => some (z.cps.toList.map fun c => .str ⟨#[c]⟩)
  | _ => none
def iOf (m : MV) : MI := fun η μ => (m η μ).bind fun d μ1 => match itemsD d with
  | some l => .ok l μ1
  | none => .stuck
theorem ii_of {X : Cx} {W : WX} {tg e : Expr} {m : MV} (h : EE X W e m) : II X W tg e (iOf m) :=
  (((pi_list (tg := tg) h).or (pi_tup h)).or (pi_str h)).imp fun σ H Q q => by
    obtain ⟨φ, χ, ψ, μ, η, rl, p⟩ := q
    cases hm : m η μ with
    | stuck => unfold iOf at p; rw [hm] at p; exact p.elim
    | exc x μ1 => unfold iOf at p; rw [hm] at p; exact .inl (.inl ⟨φ, χ, ψ, μ, η, rl, by rw [hm]; exact p⟩)
    | ok d μ1 =>
      unfold iOf at p
      rw [hm] at p
      simp only [R.bind_ok] at p
      cases hd : itemsD d with
      | none => rw [hd] at p; exact p.elim
      | some l =>
        rw [hd] at p
        simp only at p
        cases d with
        | lst l' =>
          cases hd
          refine .inl (.inl ⟨φ, χ, ψ, μ, η, rl, ?_⟩)
          rw [hm]
          rintro v φ' H' g m' ⟨a, xs, rfl, n, h, r⟩
          exact ⟨a, rfl, ⟨xs, .of h⟩, p _ _ _ g m' (.lst n.1 n.2 (fun z => nomatch z) h r)⟩
        | fro l' =>
          cases hd
          refine .inl (.inl ⟨φ, χ, ψ, μ, η, rl, ?_⟩)
          rw [hm]
          rintro v φ' H' g m' ⟨a, xs, rfl, h, r⟩
          exact ⟨a, rfl, ⟨xs, h.seq⟩, p _ _ _ g m' (.of (.fro h r))⟩
        | tup l' =>
          cases hd
          refine .inl (.inr ⟨φ, χ, ψ, μ, η, rl, ?_⟩)
          rw [hm]
          rintro v φ' H' g m' ⟨a, xs, rfl, h, r⟩
          exact ⟨a, rfl, ⟨xs, h⟩, p _ _ _ g m' (.of (.tup h r))⟩
        | ptu l' =>
          cases hd
          refine .inl (.inr ⟨φ, χ, ψ, μ, η, rl, ?_⟩)
          rw [hm]
          rintro v φ' H' g m' ⟨a, xs, rfl, ⟨o, h0, _⟩, r⟩
          have h : SqT X.K H' a xs := .inl (.inr ⟨o, h0⟩)
          exact ⟨a, rfl, ⟨xs, h⟩, p _ _ _ g m' (.of (.tup h r))⟩
        | str z =>
          cases hd
          refine .inr ⟨φ, χ, ψ, μ, η, rl, ?_⟩
          rw [hm]
          rintro v φ' H' g m' rfl
          exact ⟨z, rfl, p _ _ _ g m' (.of (.str z))⟩
        | _ => cases hd
/-- .. no list that may change -/
def rdIN (K : PySem.W.Frag) (mg : Str → Option Value) (W : WX) (m : MI) : TI := rd K mg W (fun φ χ _ H ds J => ItN K φ χ H J ds) m
abbrev IN (X : Cx) (W : WX) (tg it : Expr) (m : MI) : Prop := PI X tg it (rdIN X.K X.mg W m)
theorem in_ii {X : Cx} {W : WX} {tg it : Expr} {m : MI} (h : IN X W tg it m) : II X W tg it m := h.imp fun σ H Q q => by
  obtain ⟨φ, χ, ψ, μ, η, rl, p⟩ := q
  refine ⟨φ, χ, ψ, μ, η, rl, ?_⟩
  cases hm : m η μ with
  | ok d μ1 => rw [hm] at p; exact fun v φ' H' g m' rp => p v φ' H' g m' (.of rp)
  | exc x μ1 => rw [hm] at p; exact p
  | stuck => rw [hm] at p; exact p
def itemsN : D → Option (List D)
  | .fro l => some l
  | .tup l => some l
  | .ptu l => some l
  | .str z => some (z.cps.toList.map fun c => .str ⟨#[c]⟩)
  | _ => none
def iOfN (m : MV) : MI := fun η μ => (m η μ).bind fun d μ1 => match itemsN d with
  | some l => .ok l μ1
  | none => .stuck
theorem in_of {X : Cx} {W : WX} {tg e : Expr} {m : MV} (h : EE X W e m) : IN X W tg e (iOfN m) :=
  (((pi_list (tg := tg) h).or (pi_tup h)).or (pi_str h)).imp fun σ H Q q => by
    obtain ⟨φ, χ, ψ, μ, η, rl, p⟩ := q
    cases hm : m η μ with
    | stuck => unfold iOfN at p; rw [hm] at p; exact p.elim
    | exc x μ1 => unfold iOfN at p; rw [hm] at p; exact .inl (.inl ⟨φ, χ, ψ, μ, η, rl, by rw [hm]; exact p⟩)
    | ok d μ1 =>
      unfold iOfN at p
      rw [hm] at p
      simp only [R.bind_ok] at p
      cases hd : itemsN d with
      | none => rw [hd] at p; exact p.elim
      | some l =>
        rw [hd] at p
        simp only at p
        cases d with
        | fro l' =>
          cases hd
          refine .inl (.inl ⟨φ, χ, ψ, μ, η, rl, ?_⟩)
          rw [hm]
          rintro v φ' H' g m' ⟨a, xs, rfl, h, r⟩
          exact ⟨a, rfl, ⟨xs, h.seq⟩, p _ _ _ g m' (.fro h r)⟩
        | tup l' =>
          cases hd
          refine .inl (.inr ⟨φ, χ, ψ, μ, η, rl, ?_⟩)
          rw [hm]
          rintro v φ' H' g m' ⟨a, xs, rfl, h, r⟩
          exact ⟨a, rfl, ⟨xs, h⟩, p _ _ _ g m' (.tup h r)⟩
        | ptu l' =>
          cases hd
          refine .inl (.inr ⟨φ, χ, ψ, μ, η, rl, ?_⟩)
          rw [hm]
          rintro v φ' H' g m' ⟨a, xs, rfl, ⟨o, h0, _⟩, r⟩
          have h : SqT X.K H' a xs := .inl (.inr ⟨o, h0⟩)
          exact ⟨a, rfl, ⟨xs, h⟩, p _ _ _ g m' (.tup h r)⟩
        | str z =>
          cases hd
          refine .inr ⟨φ, χ, ψ, μ, η, rl, ?_⟩
          rw [hm]
          rintro v φ' H' g m' rfl
          exact ⟨z, rfl, p _ _ _ g m' (.str z)⟩
        | _ => cases hd
def iRange1 (ms : ML) : MI := fun η μ => (ms η μ).bind fun ds μ1 => match ds with
  | [.int j] => if (decide (-(2 ^ 62) ≤ j) && decide (j < 2 ^ 62)) = true then .ok ((List.range j.toNat).map fun i => .int (0 + (i : Nat))) μ1 else .stuck
  | _ => .stuck
def iRange2 (ms : ML) : MI := fun η μ => (ms η μ).bind fun ds μ1 => match ds with
  | [.int i, .int j] => if (decide (-(2 ^ 62) ≤ i) && decide (i < 2 ^ 62) && decide (-(2 ^ 62) ≤ j) && decide (j < 2 ^ 62)) = true then .ok ((List.range (j - i).toNat).map fun k => .int (i + (k : Nat))) μ1 else .stuck
  | _ => .stuck
theorem in_range1 {X : Cx} {W : WX} {tg a : Expr} {ms : ML} {p pos : Pos} (hm : X.mg "range" = none) (ha : AA X W [a] ms) (hg : Gl X "range" := by rfl) (hs : starEach [a] X.env = [(false, eval a X.env)] := by rfl) : IN X W tg (.Call (.Name "range" p) [a] [] pos) (iRange1 ms) :=
  (pi_range1 hg hm ha hs).imp fun σ H Q q => by
    obtain ⟨φ, χ, ψ, μ, η, rl, p⟩ := q
    refine rd_bind rl p fun φ1 H1 μ1 ds xs g1 r1 rx p1 => ?_
    split at p1
    · rename_i j
      obtain ⟨c, p1⟩ := p1.ite
      simp only [Bool.and_eq_true, decide_eq_true_eq] at c
      obtain ⟨x, ex, rx1⟩ := rx.one
      have e : x = .int j := rx1
      subst ex e
      exact ⟨j, rfl, c.1, c.2, p1 _ _ _ .refl r1.mem (.rng 0 j.toNat)⟩
    · exact p1.elim
theorem in_range2 {X : Cx} {W : WX} {tg a b : Expr} {ms : ML} {p pos : Pos} (hm : X.mg "range" = none) (ha : AA X W [a, b] ms) (hg : Gl X "range" := by rfl)
    (hs : starEach [a, b] X.env = [(false, eval a X.env), (false, eval b X.env)] := by rfl) (hs2 : starEach [b] X.env = [(false, eval b X.env)] := by rfl) : IN X W tg (.Call (.Name "range" p) [a, b] [] pos) (iRange2 ms) :=
  (pi_range2 hg hm ha hs hs2).imp fun σ H Q q => by
    obtain ⟨φ, χ, ψ, μ, η, rl, p⟩ := q
    refine rd_bind rl p fun φ1 H1 μ1 ds xs g1 r1 rx p1 => ?_
    split at p1
    · rename_i i j
      obtain ⟨c, p1⟩ := p1.ite
      simp only [Bool.and_eq_true, decide_eq_true_eq] at c
      obtain ⟨x, y, ex, rx1, ry⟩ := rx.two
      have e : x = .int i := rx1
      have e2 : y = .int j := ry
      subst ex e e2
      exact ⟨i, j, rfl, ⟨c.1.1.1, c.1.1.2, c.1.2, c.2⟩, p1 _ _ _ .refl r1.mem (.rng i (j - i).toNat)⟩
    · exact p1.elim

/-! what an iterator does while the heap grows -/
section
variable {K : PySem.W.Frag} {mg : Str → Option Value} {φ χ φ' ψ A A' : List Addr} {H H' H'' : Hp} {J : It} {ds : List D} {i : Nat} {x : V}
theorem ItN.go_stop (b : ItN K φ χ H J ds) (g : Gr A H A' H') :
    (∀ i, i < ds.length → J.go i H') ∧ J.stop ds.length H' ∧ ∀ i x H'', i < ds.length → J.yld i H' x H'' → ∃ d, ds[i]? = some d ∧ H'' = H' ∧
      ∀ (φ2 ψ2 : List Addr), (∀ {xs}, RpL K φ χ H ds xs → RpL K φ2 ψ2 H' ds xs) → Rp K φ2 ψ2 H' d x := by
  cases b with
  | @fro a xs ds h r =>
    have hq : SqL K H' a xs := (g.fz h).seq
    refine ⟨fun i hi => ⟨xs, xs[i]'(by rw [r.length]; exact hi), hq, by simp [r.length, hi]⟩, ⟨xs, hq, by rw [r.length]; exact Nat.le_refl _⟩, fun i x H'' _ y => ?_⟩
    obtain ⟨e, y⟩ := y
    obtain ⟨d, hd, rd⟩ := r.getV (y xs hq)
    refine ⟨d, hd, e, fun φ2 ψ2 f => ?_⟩
    obtain ⟨v, hv, rv⟩ := (f r).get hd
    rw [y xs hq] at hv; cases hv
    exact rv
  | @tup a xs ds h r =>
    have hq : SqT K H' a xs := g.tup h
    refine ⟨fun i hi => ⟨xs, xs[i]'(by rw [r.length]; exact hi), hq, by simp [r.length, hi]⟩, ⟨xs, hq, by rw [r.length]; exact Nat.le_refl _⟩, fun i x H'' _ y => ?_⟩
    obtain ⟨e, y⟩ := y
    obtain ⟨d, hd, rd⟩ := r.getV (y xs hq)
    refine ⟨d, hd, e, fun φ2 ψ2 f => ?_⟩
    obtain ⟨v, hv, rv⟩ := (f r).get hd
    rw [y xs hq] at hv; cases hv
    exact rv
  | str z =>
    refine ⟨fun i hi => (show i < z.cps.size by simpa using hi), by show z.cps.size ≤ _; simp, fun i x H'' _ y => ?_⟩
    obtain ⟨e, c, hc, rfl⟩ := y
    refine ⟨.str ⟨#[c]⟩, ?_, e, fun _ _ _ => rfl⟩
    rw [List.getElem?_map, show z.cps.toList[i]? = some c by simpa using hc]
    rfl
  | rng lo n =>
    refine ⟨fun i hi => (show i < n by simpa using hi), by show n ≤ _; simp, fun i x H'' hi y => ?_⟩
    obtain ⟨e, rfl⟩ := y
    refine ⟨.int (lo + (i : Nat)), ?_, e, fun _ _ _ => rfl⟩
    have hi' : i < n := by simpa using hi
    simp [hi']
  | rngC lo c n =>
    refine ⟨fun i hi => (show i < n by simpa using hi), by show n ≤ _; simp, fun i x H'' hi y => ?_⟩
    obtain ⟨e, rfl⟩ := y
    refine ⟨.int (lo + (i : Nat) * c), ?_, e, fun _ _ _ => rfl⟩
    have hi' : i < n := by simpa using hi
    simp [hi']
theorem ItB.go_stop (b : ItB K φ χ ψ H J ds) (g : Gr A H A' H') (hA : ∀ a, a ∉ φ → a ∉ χ → a ∉ ψ → a ∉ A) :
    (∀ i, i < ds.length → J.go i H') ∧ J.stop ds.length H' ∧ ∀ i x H'', i < ds.length → J.yld i H' x H'' → ∃ d, ds[i]? = some d ∧ H'' = H' ∧
      ∀ (φ2 ψ2 : List Addr), (∀ {xs}, RpL K φ χ H ds xs → RpL K φ2 ψ2 H' ds xs) → Rp K φ2 ψ2 H' d x := by
  cases b with
  | of h => exact h.go_stop g
  | @lst a xs ds n n2 n3 h r =>
    have h' : H' a = some (.lst xs) := g.keep a _ (fun z => absurd z (hA a n n2 n3)) h
    have hq : SqL K H' a xs := .of h'
    refine ⟨fun i hi => ⟨xs, xs[i]'(by rw [r.length]; exact hi), hq, by simp [r.length, hi]⟩, ⟨xs, hq, by rw [r.length]; exact Nat.le_refl _⟩, fun i x H'' _ y => ?_⟩
    obtain ⟨e, y⟩ := y
    obtain ⟨d, hd, rd⟩ := r.getV (y xs hq)
    refine ⟨d, hd, e, fun φ2 ψ2 f => ?_⟩
    obtain ⟨v, hv, rv⟩ := (f r).get hd
    rw [y xs hq] at hv; cases hv
    exact rv
end

/-! ### targets -/
inductive Tg where
  | nm (i : Nat)
  | tp (is : List Nat)
def setL {α : Type} : List (Option α) → List Nat → List α → List (Option α)
  | η, i :: is, d :: ds => setL (η.set i (some d)) is ds
  | η, _, _ => η
/-- data is stored at a target -/
def bindT : Tg → D → Env' → Option Env'
  | .nm i, d, η => some (η.set i (some d))
  | .tp is, .tup ds, η => if ds.length = is.length then some (setL η is ds) else none
  | _, _, _ => none
def gAll : List Nat → TGs
  | [] => gNil
  | i :: is => gCons (gName i) (gAll is)
def gOf (K : PySem.W.Frag) : Tg → TG
  | .nm i => gName i
  | .tp is => gTup K is.length (gAll is)
def tgIn : Tg → List Nat
  | .nm i => [i]
  | .tp is => is
section
variable {K : PySem.W.Frag} {φ χ ψ : List Addr} {H : Hp}
/-- slots stand for data, each by P -/
def Sl (P : D → V → Prop) (η : Env') (σ : L2.St) : Prop := η.length = σ.length ∧ ∀ (i : Nat) (d : D), η[i]? = some (some d) → ∃ v, σ[i]? = some (some v) ∧ P d v
theorem Sl.set {P : D → V → Prop} {η : Env'} {σ : L2.St} {d : D} {v : V} (s : Sl P η σ) (i : Nat) (h : P d v) : Sl P (η.set i (some d)) (σ.set i (some v)) := by
  refine ⟨by simp [s.1], fun j e he => ?_⟩
  by_cases hj : i = j
  · subst hj
    by_cases hl : i < η.length
    · rw [List.getElem?_set_self hl] at he
      cases he
      exact ⟨v, by rw [List.getElem?_set_self (by rw [← s.1]; exact hl)], h⟩
    · rw [List.getElem?_eq_none_iff.mpr (by simpa using hl)] at he
      cases he
  · rw [List.getElem?_set_ne hj] at he ⊢
    exact s.2 j e he
theorem Sl.setL {P : D → V → Prop} : ∀ {is : List Nat} {ds : List D} {xs : List V} {η : Env'} {σ : L2.St}, Sl P η σ → xs.length = ds.length → (∀ (i : Nat) (d : D), ds[i]? = some d → ∃ v, xs[i]? = some v ∧ P d v) → Sl P (FP.setL η is ds) (FP.setL σ is xs)
  | [], _, _, _, _, s, _, _ => s
  | _ :: _, [], [], _, _, s, _, _ => s
  | _ :: _, [], _ :: _, _, _, _, h, _ => by simp at h
  | _ :: _, _ :: _, [], _, _, _, h, _ => by simp at h
  | i :: is, d :: ds, x :: xs, η, σ, s, h, r => by
    obtain ⟨v, hv, p⟩ := r 0 d rfl
    cases hv
    show Sl P (FP.setL (η.set i (some d)) is ds) (FP.setL (σ.set i (some x)) is xs)
    exact Sl.setL (is := is) (s.set i p) (by simpa using h) fun j e he => by
      obtain ⟨v, hv, p⟩ := r (j + 1) e he
      exact ⟨v, hv, p⟩
theorem setL_length {α : Type} : ∀ {is : List Nat} {ds : List α} {η : List (Option α)}, (setL η is ds).length = η.length
  | [], _, _ => rfl
  | _ :: _, [], _ => rfl
  | i :: is, d :: ds, η => by
    show (setL (η.set i (some d)) is ds).length = _
    rw [setL_length]; simp
theorem gAll_run : ∀ {is : List Nat} {xs : List V} {σ : L2.St} {H : Hp} {Q : L2.St → Hp → Prop}, xs.length = is.length → Q (setL σ is xs) H → gAll is xs σ H Q
  | [], [], _, _, _, _, q => ⟨rfl, q⟩
  | [], _ :: _, _, _, _, h, _ => by simp at h
  | _ :: _, [], _, _, _, h, _ => by simp at h
  | i :: is, x :: xs, σ, H, Q, h, q => ⟨x, xs, rfl, gAll_run (is := is) (by simpa using h) q⟩
/-- a store at a target: what the slots stand for behind, for any P that holds of the data and, of a tuple, of its items -/
theorem gOf_run {P : D → V → Prop} {t : Tg} {d : D} {x : V} {η η1 : Env'} {σ : L2.St} {Q : L2.St → Hp → Prop} (hb : bindT t d η = some η1) (r : Rp K φ χ H d x) (s : Sl P η σ) (hp : P d x)
    (ht : ∀ ds xs, d = .tup ds → RpL K φ χ H ds xs → SqT K H (match x with | .ref a => a | _ => 0) xs → ∀ (i : Nat) (e : D), ds[i]? = some e → ∃ v, xs[i]? = some v ∧ P e v)
    (q : ∀ σ1, Sl P η1 σ1 → (∃ xs, σ1 = setL σ (tgIn t) xs) → Q σ1 H) : gOf K t x σ H Q := by
  cases t with
  | nm i =>
    cases hb
    exact q _ (s.set i hp) ⟨[x], rfl⟩
  | tp is =>
    unfold bindT at hb
    cases d with
    | tup ds =>
      simp only at hb
      split at hb
      · rename_i hl
        cases hb
        obtain ⟨a, xs, rfl, hq, rx⟩ := r
        refine ⟨a, xs, rfl, hq, by rw [rx.length]; exact hl, gAll_run (by rw [rx.length]; exact hl) ?_⟩
        exact q _ (s.setL rx.length (ht ds xs rfl rx hq)) ⟨xs, rfl⟩
      · cases hb
    | _ => cases hb
end
theorem wipe_set {σ : L2.St} {i : Nat} {o : Option V} : ∀ {vs : List Nat}, i ∈ vs → wipe (σ.set i o) vs = wipe σ vs
  | v :: vs, h => by
    show (wipe (σ.set i o) vs).set v none = (wipe σ vs).set v none
    by_cases hv : i ∈ vs
    · rw [wipe_set hv]
    · have e : i = v := by
        rcases List.mem_cons.mp h with h | h
        · exact h
        · exact absurd h hv
      subst e
      have key : ∀ (us : List Nat), (wipe (σ.set i o) us).set i none = (wipe σ us).set i none := by
        intro us
        induction us with
        | nil => simp [wipe]
        | cons u us ih =>
          show ((wipe (σ.set i o) us).set u none).set i none = ((wipe σ us).set u none).set i none
          by_cases hu : u = i
          · subst hu; simp [ih]
          · rw [List.set_comm _ _ (fun z => hu z), ih, List.set_comm _ _ (fun z => hu z.symm)]
      exact key vs
theorem wipe_setL {vs : List Nat} : ∀ {is : List Nat} {xs : List V} {σ : L2.St}, (∀ i ∈ is, i ∈ vs) → wipe (setL σ is xs) vs = wipe σ vs
  | [], _, _, _ => rfl
  | _ :: _, [], _, _ => rfl
  | i :: is, x :: xs, σ, h => by
    show wipe (setL (σ.set i (some x)) is xs) vs = _
    rw [wipe_setL fun j hj => h j (List.mem_cons_of_mem _ hj), wipe_set (h i List.mem_cons_self)]
theorem wipe_wipe {σ : L2.St} : ∀ {vs us : List Nat}, (∀ i ∈ us, i ∈ vs) → wipe (wipe σ us) vs = wipe σ vs
  | _, [], _ => rfl
  | vs, u :: us, h => by
    show wipe ((wipe σ us).set u none) vs = _
    rw [wipe_set (h u List.mem_cons_self), wipe_wipe fun i hi => h i (List.mem_cons_of_mem _ hi)]
def wipeD (η : Env') : List Nat → Env'
  | [] => η
  | v :: vs => (wipeD η vs).set v none
theorem Sl.wipe {P : D → V → Prop} {η : Env'} {σ : L2.St} (s : Sl P η σ) : ∀ vs, Sl P (wipeD η vs) (L2.wipe σ vs)
  | [] => s
  | v :: vs => by
    have ih := Sl.wipe s vs
    refine ⟨by show ((wipeD η vs).set v none).length = ((L2.wipe σ vs).set v none).length; simp [ih.1], fun j e he => ?_⟩
    have he' : ((wipeD η vs).set v none)[j]? = some (some e) := he
    show ∃ x, ((L2.wipe σ vs).set v none)[j]? = some (some x) ∧ P e x
    by_cases hj : v = j
    · subst hj
      by_cases hl : v < (wipeD η vs).length
      · rw [List.getElem?_set_self hl] at he'; cases he'
      · rw [List.getElem?_eq_none_iff.mpr (by simpa using hl)] at he'; cases he'
    · rw [List.getElem?_set_ne hj] at he' ⊢
      exact ih.2 j e he'

/-! ### comprehensions -/
def noX {α : Type} : R α → R α
  | .exc _ _ => .stuck
  | r => r
def bTrue : MB := fun _ μ => .ok true μ
/-- the turns over the items -/
def lcLoop (g : Tg) (tst : MB) (elt : MV) (η : Env') : List D → List D → Mem → R D
  | [], acc, μ => .ok (.lst acc) μ
  | d :: ds, acc, μ => match bindT g d η with
    | none => .stuck
    | some η1 => (noX (tst η1 μ)).bind fun b μ1 => if b = true then (noX (elt η1 μ1)).bind fun e μ2 => if acc.length < 10000000 then lcLoop g tst elt η ds (acc ++ [e]) μ2 else .stuck else lcLoop g tst elt η ds acc μ1
def mLc (it : MI) (g : Tg) (vs : List Nat) (tst : MB) (elt : MV) : MV := fun η μ => (it η μ).bind fun ds μ1 => lcLoop g tst elt (wipeD η vs) ds [] μ1
abbrev W0 : WX := fun _ _ _ _ => False
section
variable {K : PySem.W.Frag} {mg : Str → Option Value} {φ φ' χ ψ : List Addr} {H H' : Hp} {μ : Mem}
/-- p is new, hidden from now on -/
theorem MemOk.hid {p : Addr} {o : HO} (h : MemOk K mg φ ψ μ H) (hp : H p = none) : MemOk K mg φ (p :: ψ) μ (upd H p o) := by
  have g : Go φ H φ (upd H p o) := .new hp
  refine ⟨h.len, h.nd, fun k c a e e' => (h.ats k c a e e').via (fun r => g.rpL (r.more hp)) (fun u q => by rw [upd_ne (ne_of_none q hp)]; exact q), fun a z => ?_, fun a z => ?_⟩
  · rcases List.mem_cons.mp z with rfl | z
    · exact ⟨o, upd_same⟩
    · obtain ⟨u, q⟩ := h.trk a z
      exact ⟨u, by rw [upd_ne (ne_of_none q hp)]; exact q⟩
  · rcases List.mem_cons.mp z with rfl | z
    · exact Gr.notin h hp
    · exact h.dis a z
/-- a hidden list changes -/
theorem RpL.hidden {p : Addr} {o u : HO} {ds : List D} {xs : List V} (r : RpL K φ ψ H ds xs) (hp : p ∈ ψ) (h : H p = some o) (m : Mut (some o)) : RpL K φ ψ (upd H p u) ds xs :=
  r.mono (A := [p]) (A' := [p]) (.mut (by simp) h m) (fun a _ n z => n (by simp at z; rw [z]; exact hp)) (fun a z => .inl z) fun _ _ h => h
theorem Rp.hidden {p : Addr} {o u : HO} {d : D} {x : V} (r : Rp K φ ψ H d x) (hp : p ∈ ψ) (h : H p = some o) (m : Mut (some o)) : Rp K φ ψ (upd H p u) d x :=
  r.mono (A := [p]) (A' := [p]) (.mut (by simp) h m) (fun a _ n z => n (by simp at z; rw [z]; exact hp)) (fun a z => .inl z) fun _ _ h => h
theorem MemOk.hidden {p : Addr} {o u : HO} (h : MemOk K mg φ ψ μ H) (hp : p ∈ ψ) (e : H p = some o) (m : Mut (some o)) : MemOk K mg φ ψ μ (upd H p u) := by
  refine ⟨h.len, h.nd, fun k c a e1 e2 => (h.ats k c a e1 e2).via (fun r => r.hidden hp e m) (fun v q => ?_), fun a z => ?_, h.dis⟩
  · have ne : a ≠ p := fun z => h.dis p hp (z ▸ List.mem_of_getElem? e2)
    rw [upd_ne ne]; exact q
  · by_cases q : a = p
    · subst q; exact ⟨u, upd_same⟩
    · obtain ⟨v, hv⟩ := h.trk a z
      exact ⟨v, by rw [upd_ne q]; exact hv⟩
theorem Go.mutNew {p : Addr} {u : HO} (g : Go φ H φ' H') (hp : H p = none) : Go φ H φ' (upd H' p u) := by
  refine ⟨⟨g.gr.pre, fun a o hm e => ?_, fun a o e => ?_⟩, g.ext⟩
  · rw [upd_ne (ne_of_none e hp)]; exact g.gr.keep a o hm e
  · obtain ⟨o', e'⟩ := g.gr.there a o e
    exact ⟨o', by rw [upd_ne (ne_of_none e hp)]; exact e'⟩
theorem rd_noX {α β γ : Type} {rep : List Addr → List Addr → List Addr → Hp → α → β → Prop} {σ2 : L2.St} {χ' : List Addr} {η : Env'} {P : R γ → Prop} (hP : ¬ P .stuck)
    {m : Env' → Mem → R α} {g : α → Mem → R γ} {C : β → Hp → Prop} (r : Rel K mg φ χ' ψ μ η σ2 H) (p : P ((noX (m η μ)).bind g))
    (k : ∀ φ1 H1 μ1 d x, Go φ H φ1 H1 → Rel K mg φ1 χ' ψ μ1 η σ2 H1 → rep φ1 χ' ψ H1 d x → P (g d μ1) → C x H1) : rd K mg W0 rep m σ2 H C := by
  refine ⟨φ, χ', ψ, μ, η, r, ?_⟩
  cases h : m η μ with
  | ok d μ1 =>
    rw [h] at p
    exact fun v φ1 H1 g1 m1 rp => k φ1 H1 μ1 d v g1 (r.go g1 m1) rp p
  | exc x μ1 => rw [h] at p; exact (hP p).elim
  | stuck => rw [h] at p; exact (hP p).elim
end
theorem drop_cons {α : Type} {l : List α} {i : Nat} {d : α} (h : l[i]? = some d) : l.drop i = d :: l.drop (i + 1) := by
  obtain ⟨hi, e⟩ := List.getElem?_eq_some_iff.mp h
  rw [← e]; exact List.drop_eq_getElem_cons hi
section
variable {X : Cx} {W : WX} {elt tg iter : Expr} {ifs : List Expr} {scope : Scope} {own : List (Str × Nat)} {pos : Pos} {mi : MI} {g : Tg} {tst : MB} {e : MV}
/-- the state at turn i: the new list at Dl -/
def LcI (X : Cx) (P : R D → Prop) (g : Tg) (tst : MB) (e : MV) (ds : List D) (ηw : Env') (φ1 χ ψ : List Addr) (H1 : Hp) (Dl : Addr) (i : Nat) (H' : Hp) : Prop :=
  ∃ φ' μ' acc xs, Go φ1 H1 φ' H' ∧ MemOk X.K X.mg φ' ((Dl :: χ) ++ ψ) μ' H' ∧ H' Dl = some (.lst xs) ∧ RpL X.K φ' (Dl :: χ) H' acc xs ∧ P (lcLoop g tst e ηw (ds.drop i) acc μ')
theorem lc_run {σ : L2.St} {H1 : Hp} {Q : VK} {vs : List Nat} {P : R D → Prop} {φ1 χ ψ : List Addr} {μ1 : Mem} {η : Env'} {ds : List D} {J : It} (hP : ¬ P .stuck) (hv : ∀ i ∈ tgIn g, i ∈ vs) (r1 : Rel X.K X.mg φ1 χ ψ μ1 η σ H1) (hJ : ItB X.K φ1 χ [] H1 J ds) (p1 : P (lcLoop g tst e (wipeD η vs) ds [] μ1))
    (fin : ∀ Dl φ' μ' acc xs H', H1 Dl = none → Go φ1 H1 φ' H' → MemOk X.K X.mg φ' ((Dl :: χ) ++ ψ) μ' H' → H' Dl = some (.lst xs) → RpL X.K φ' (Dl :: χ) H' acc xs → P (.ok (.lst acc) μ') → Q (.ref Dl) H') :
    ∀ D, H1 D = none → ∃ W : Nat → Nat → Hp → Prop, (∃ m, W 0 m (upd H1 D (.lst []))) ∧ ∀ i m H, W i m H →
      (J.stop i H ∧ Q (.ref D) H) ∨ (J.go i H ∧ ∃ Nx : Hp → Prop, (∀ H', Nx H' → ∃ m', m' < m ∧ W (i + 1) m' H') ∧ ∀ x H', J.yld i H x H' → gOf X.K g x (wipe σ vs) H' fun σ2 H2 => wipe σ2 vs = wipe σ vs ∧ rd X.K X.mg W0 rB tst σ2 H2 fun b H3 =>
        if b = true then rd X.K X.mg W0 (rV X.K) e σ2 H3 fun y H4 => ∃ acc, H4 D = some (.lst acc) ∧ acc.length < sizeLine ∧ Nx (upd H4 D (.lst (acc ++ [y]))) else Nx H3) := by
  intro Dl hD
  refine ⟨fun i m H' => m = ds.length - i ∧ i ≤ ds.length ∧ LcI X P g tst e ds (wipeD η vs) φ1 χ ψ H1 Dl i H', ⟨ds.length, by simp, Nat.zero_le _, φ1, μ1, [], [], .new hD, r1.mem.hid hD, upd_same, .nil, p1⟩, ?_⟩
  rintro i m H' ⟨rfl, hi, φ', μ', acc, xs, g', m', hl, ra, p'⟩
  obtain ⟨j1, j2, j3⟩ := hJ.go_stop g'.gr fun a n _ _ => n
  by_cases hlt : i < ds.length
  · refine .inr ⟨j1 i hlt, LcI X P g tst e ds (wipeD η vs) φ1 χ ψ H1 Dl (i + 1), fun H2 h2 => ⟨ds.length - (i + 1), by omega, rfl, hlt, h2⟩, fun x H'' y => ?_⟩
    obtain ⟨d, hd, rfl, hx⟩ := j3 i x H'' hlt y
    have rx : Rp X.K φ' (Dl :: χ) H'' d x := hx φ' (Dl :: χ) fun r => g'.rpL (r.more hD)
    rw [drop_cons hd] at p'
    unfold lcLoop at p'
    cases hb : bindT g d (wipeD η vs) with
    | none => rw [hb] at p'; exact (hP p').elim
    | some η1 =>
      rw [hb] at p'
      simp only at p'
      have s0 : Sl (Rp X.K φ' (Dl :: χ) H'') (wipeD η vs) (L2.wipe σ vs) := by
        refine Sl.wipe ⟨r1.len, fun j e he => ?_⟩ vs
        obtain ⟨v, hv, rv⟩ := r1.ats j e he
        exact ⟨v, hv, g'.rp (rv.more hD)⟩
      refine gOf_run hb rx s0 rx (fun es ys _ ry _ j e he => ry.get he) fun σ2 s2 hσ => ?_
      obtain ⟨ys, hσ⟩ := hσ
      refine ⟨by rw [hσ, wipe_setL hv, wipe_wipe fun _ h => h], ?_⟩
      have rel2 : Rel X.K X.mg φ' (Dl :: χ) ψ μ' η1 σ2 H'' := ⟨m', s2.1, s2.2⟩
      refine rd_noX hP rel2 p' fun φ3 H3 μ3 b b' g3 r3 eb p3 => ?_
      cases eb
      have hl3 : H3 Dl = some (.lst xs) := g3.gr.keep Dl _ (fun z => absurd z (m'.dis Dl (by simp))) hl
      cases b with
      | false =>
        rw [if_neg Bool.false_ne_true] at p3
        exact ⟨φ3, μ3, acc, xs, g'.trans g3, r3.mem, hl3, g3.rpL ra, p3⟩
      | true =>
        rw [if_pos rfl] at p3
        refine rd_noX hP r3 p3 fun φ4 H4 μ4 e4 y4 g4 r4 ry p4 => ?_
        have hl4 : H4 Dl = some (.lst xs) := g4.gr.keep Dl _ (fun z => absurd z (r3.mem.dis Dl (by simp))) hl3
        split at p4
        · rename_i c
          have ra4 := g4.rpL (g3.rpL ra)
          refine ⟨xs, hl4, Nat.lt_of_lt_of_le (by rw [ra.length]; exact c) (line_le (Nat.le_refl _)), ?_⟩
          refine ⟨φ4, μ4, acc ++ [e4], xs ++ [y4], ((g'.trans g3).trans g4).mutNew hD, r4.mem.hidden (by simp) hl4 trivial, upd_same, ?_, p4⟩
          exact (ra4.append (.cons ry .nil)).hidden (by simp) hl4 trivial
        · exact (hP p4).elim
  · have e1 : i = ds.length := by omega
    subst e1
    refine .inl ⟨j2, ?_⟩
    rw [List.drop_length] at p'
    exact fin Dl φ' μ' acc xs H' hD g' m' hl ra p'
theorem rd_lc {σ : L2.St} {H : Hp} {Q : VK} {vs : List Nat} (hv : ∀ i ∈ tgIn g, i ∈ vs) (q : rd X.K X.mg W (rV X.K) (mLc mi g vs tst e) σ H Q) :
    tLc (rdI X.K X.mg W mi) (gOf X.K g) (rd X.K X.mg W0 rB tst) (rd X.K X.mg W0 (rV X.K) e) vs σ H Q := by
  obtain ⟨φ, χ, ψ, μ, η, rl, p⟩ := q
  refine rd_bind rl p fun φ1 H1 μ1 ds J g1 r1 hJ p1 => ?_
  refine lc_run (P := fun r => Post X.K X.mg W (rV X.K) σ φ1 χ ψ H1 r Q) (fun z => z) hv r1 hJ p1 fun Dl φ' μ' acc xs H' hD g' m' hl ra p' => ?_
  exact p' _ φ' H' g' (m'.less fun a z => List.mem_cons_of_mem _ z) ⟨Dl, xs, rfl, ⟨m'.dis Dl (by simp), Gr.offχ r1.mem hD⟩, hl, ra.less fun a z => List.mem_cons_of_mem _ z⟩
theorem ee_lc (hc : X.calm = true) (hN : X.N.Nodup) (g : Tg) (hv : ∀ i ∈ tgIn g, i ∈ own.map (·.2)) (hi : II X W tg iter mi) (ok : BlkOk X.N X.env.scope scope own)
    (hg : ∀ (s : Shared) (H : Hp) (C : Addr) (cl : List (Str × Addr)) (fp : List Addr), PG (X.blk s H scope (compEnvC scope cl C X.env) fp) tg (gOf X.K g))
    (ht : ∀ (s : Shared) (H : Hp) (C : Addr) (cl : List (Str × Addr)) (fp : List Addr), PTs (X.blk s H scope (compEnvC scope cl C X.env) fp) ifs (rd X.K X.mg W0 rB tst))
    (he : ∀ (s : Shared) (H : Hp) (C : Addr) (cl : List (Str × Addr)) (fp : List Addr), PE (X.blk s H scope (compEnvC scope cl C X.env) fp) elt (rd X.K X.mg W0 (rV X.K) e))
    (hs : ∀ x, foldedSetIterable iter X.env x = pure x := by intro _; rfl) : EE X W (.ListComp elt [⟨tg, iter, ifs, 0⟩] scope pos) (mLc mi g (own.map (·.2)) tst e) :=
  (pe_lc hc hN hi ok hg ht he hs).imp fun σ H Q q => rd_lc hv q
theorem pts_yes {X : Cx} : PTs X [] (rd X.K X.mg W0 rB bTrue) := by
  refine ⟨fun pins s σ H Q I h => pts_nil.run pins s σ H Q I ?_⟩
  obtain ⟨φ, χ, ψ, μ, η, rl, p⟩ := h
  exact p _ _ _ .refl rl.mem rfl
end
end FP
/-! Core5: statements. -/
namespace FP
open PySem PySem.Spec L2
open PyProof.Rows hiding St

/-! ### data without lists within -/
mutual
def noL : D → Bool
  | .tup l => noLs l
  | .lst _ => false
  | .fro l => noLs l
  | .ptu l => noLs l
  | .dic _ _ => false
  | .exn _ _ _ _ => false
  | _ => true
def noLs : List D → Bool
  | [] => true
  | d :: l => noL d && noLs l
end
section
variable {K : PySem.W.Frag} {φ χ χ' : List Addr} {H : Hp}
mutual
theorem noL_rp : ∀ {d : D} {v : V}, noL d = true → Rp K φ χ H d v → Rp K φ χ' H d v
  | .non, _, _, h => h
  | .bl _, _, _, h => h
  | .int _, _, _, h => h
  | .str _, _, _, h => h
  | .tup l, _, n, h => by
    obtain ⟨a, xs, e, q, r⟩ := h
    exact ⟨a, xs, e, q, noLs_rp (by simpa [noL] using n) r⟩
  | .fro l, _, n, h => by
    obtain ⟨a, xs, e, q, r⟩ := h
    exact ⟨a, xs, e, q, noLs_rp (by simpa [noL] using n) r⟩
  | .ptu l, _, n, h => by
    obtain ⟨a, xs, e, q, r⟩ := h
    exact ⟨a, xs, e, q, noLs_rp (by simpa [noL] using n) r⟩
  | .lst _, _, n, _ => by simp [noL] at n
  | .dic _ _, _, n, _ => by simp [noL] at n
  | .ptr _, _, _, h => h
  | .exn _ _ _ _, _, n, _ => by simp [noL] at n
theorem noLs_rp : ∀ {l : List D} {vs : List V}, noLs l = true → RpL K φ χ H l vs → RpL K φ χ' H l vs
  | [], _, _, h => h
  | d :: l, _, n, h => by
    obtain ⟨x, r, e, h1, h2⟩ := h
    simp only [noLs, Bool.and_eq_true] at n
    exact ⟨x, r, e, noL_rp n.1 h1, noLs_rp n.2 h2⟩
end
end
theorem noLs_append {a b : List D} (h : noLs a = true) (h' : noLs b = true) : noLs (a ++ b) = true := by
  induction a with
  | nil => exact h'
  | cons d a ih =>
    simp only [noLs, Bool.and_eq_true, List.cons_append] at h ⊢
    exact ⟨h.1, ih h.2⟩

/-! ### slots at a statement -/
/-- an own list or dict at a slot -/
def OwnAt (K : PySem.W.Frag) (φ Ψ ψ : List Addr) (H : Hp) (d : D) (v : V) : Prop := ∃ a, v = .ref a ∧ a ∈ ψ ∧ (match d with
  | .lst ds => ∃ xs, H a = some (.lst xs) ∧ RpL K φ Ψ H ds xs
  | .dic ks ds => ∃ xs, H a = some (.dK (ks.zip xs)) ∧ ks.length = ds.length ∧ RpL K φ Ψ H ds xs
  | _ => False)
structure RelS (K : PySem.W.Frag) (mg : Str → Option Value) (ω : List Nat) (φ χ ψ0 ψ : List Addr) (μ : Mem) (η : Env') (σ : L2.St) (H : Hp) : Prop where
  mem : MemOk K mg φ (χ ++ (ψ0 ++ ψ)) μ H
  off : ∀ a ∈ ψ, a ∉ χ ∧ a ∉ ψ0
  emp : ω = [] → ψ = []
  len : η.length = σ.length
  ats : ∀ (i : Nat) (d : D), i ∉ ω → η[i]? = some (some d) → ∃ v, σ[i]? = some (some v) ∧ Rp K φ (χ ++ ψ) H d v
  own : ∀ (i : Nat) (d : D), i ∈ ω → η[i]? = some (some d) → ∃ v, σ[i]? = some (some v) ∧ OwnAt K φ (χ ++ (ψ0 ++ ψ)) ψ H d v
  sep : ∀ (i j : Nat) (d e : D) (v : V), i ∈ ω → j ∈ ω → i ≠ j → η[i]? = some (some d) → η[j]? = some (some e) → σ[i]? = some (some v) → σ[j]? = some (some v) → False
/-- a statement's way -/
structure GoS (φ ψ : List Addr) (H : Hp) (φ' ψ' : List Addr) (H' : Hp) : Prop where
  gr : Gr (φ ++ ψ) H (φ' ++ ψ') H'
  ext : Ext φ φ'
  pφ : ∀ a ∈ φ', a ∈ φ ∨ H a = none
  pψ : ∀ a ∈ ψ', a ∈ ψ ∨ H a = none
theorem GoS.refl {φ ψ : List Addr} {H : Hp} : GoS φ ψ H φ ψ H := ⟨.refl, .refl, fun _ h => .inl h, fun _ h => .inl h⟩
theorem none_back {A A' : List Addr} {H H' : Hp} (g : Gr A H A' H') {a : Addr} (h : H' a = none) : H a = none := by
  cases e : H a with
  | none => rfl
  | some o =>
    obtain ⟨o', e'⟩ := g.there a o e
    rw [h] at e'; cases e'
theorem GoS.trans {φ φ1 φ2 ψ ψ1 ψ2 : List Addr} {H H1 H2 : Hp} (a : GoS φ ψ H φ1 ψ1 H1) (b : GoS φ1 ψ1 H1 φ2 ψ2 H2) : GoS φ ψ H φ2 ψ2 H2 := by
  refine ⟨a.gr.trans b.gr, a.ext.trans b.ext, fun x h => ?_, fun x h => ?_⟩
  · rcases b.pφ x h with h | h
    · exact a.pφ x h
    · exact .inr (none_back a.gr h)
  · rcases b.pψ x h with h | h
    · exact a.pψ x h
    · exact .inr (none_back a.gr h)
theorem Go.s {φ φ' ψ : List Addr} {H H' : Hp} (g : Go φ H φ' H') : GoS φ ψ H φ' ψ H' := by
  refine ⟨⟨fun a h => ?_, fun a o hm e => g.gr.keep a o (fun z => hm (List.mem_append_left _ z)) e, g.gr.there⟩, g.ext, g.gr.pre, fun _ h => .inl h⟩
  rcases List.mem_append.mp h with h | h
  · exact (g.gr.pre a h).imp_left (List.mem_append_left _)
  · exact .inl (List.mem_append_right _ h)
section
variable {K : PySem.W.Frag} {mg : Str → Option Value} {ω : List Nat} {φ φ' χ ψ0 ψ ψ' : List Addr} {μ μ' : Mem} {η : Env'} {σ : L2.St} {H H' : Hp}
theorem OwnAt.go {Ψ : List Addr} {d : D} {v : V} (g : Go φ H φ' H') (hd : ∀ a ∈ ψ, a ∉ φ) (h : OwnAt K φ Ψ ψ H d v) : OwnAt K φ' Ψ ψ H' d v := by
  obtain ⟨a, e, ha, h⟩ := h
  refine ⟨a, e, ha, ?_⟩
  cases d with
  | lst ds =>
    obtain ⟨xs, q, r⟩ := h
    exact ⟨xs, g.gr.keep a _ (fun z => absurd z (hd a ha)) q, g.rpL r⟩
  | dic ks ds =>
    obtain ⟨xs, q, l, r⟩ := h
    exact ⟨xs, g.gr.keep a _ (fun z => absurd z (hd a ha)) q, l, g.rpL r⟩
  | _ => exact h
theorem RelS.ψφ (r : RelS K mg ω φ χ ψ0 ψ μ η σ H) : ∀ a ∈ ψ, a ∉ φ := fun a h => r.mem.dis a (by simp [h])
theorem RelS.go (r : RelS K mg ω φ χ ψ0 ψ μ η σ H) (g : Go φ H φ' H') (m : MemOk K mg φ' (χ ++ (ψ0 ++ ψ)) μ' H') : RelS K mg ω φ' χ ψ0 ψ μ' η σ H' :=
  ⟨m, r.off, r.emp, r.len, fun i d n e => let ⟨v, e1, p⟩ := r.ats i d n e; ⟨v, e1, g.rp p⟩, fun i d n e => let ⟨v, e1, p⟩ := r.own i d n e; ⟨v, e1, p.go g r.ψφ⟩, r.sep⟩
/-- what an expression sees -/
theorem RelS.rel (r : RelS K mg ω φ χ ψ0 ψ μ η σ H) : Rel K mg φ χ (ψ0 ++ ψ) μ η σ H := by
  refine ⟨r.mem, r.len, fun i d e => ?_⟩
  by_cases h : i ∈ ω
  · obtain ⟨v, e1, a, rfl, ha, q⟩ := r.own i d h e
    refine ⟨_, e1, ?_⟩
    cases d with
    | lst ds =>
      obtain ⟨xs, q, rx⟩ := q
      exact ⟨a, xs, rfl, ⟨r.ψφ a ha, (r.off a ha).1⟩, q, rx.less fun _ z => List.mem_append_left _ z⟩
    | dic ks ds =>
      obtain ⟨xs, q, l, rx⟩ := q
      exact ⟨a, xs, rfl, ⟨r.ψφ a ha, (r.off a ha).1⟩, q, l, rx.less fun _ z => List.mem_append_left _ z⟩
    | _ => exact q.elim
  · obtain ⟨v, e1, p⟩ := r.ats i d h e
    exact ⟨v, e1, p.less fun _ z => List.mem_append_left _ z⟩
end

/-! ### readings of statements -/
/-- a list is one of N -/
def InN (N : List Addr) (d : D) (v : V) : Prop := match d with
  | .lst _ => ∀ a, v = .ref a → a ∈ N
  | .dic _ _ => ∀ a, v = .ref a → a ∈ N
  | _ => True
theorem InN.noL {N : List Addr} {d : D} {v : V} (h : noL d = true) : InN N d v := by
  cases d with
  | lst l => simp [FP.noL] at h
  | dic l => simp [FP.noL] at h
  | _ => trivial
def PostS (K : PySem.W.Frag) (mg : Str → Option Value) (W : WX) (ω : List Nat) (φ χ ψ0 ψ : List Addr) (H : Hp) (r : RS) (D : Ends) : Prop :=
  match r with
  | .nx η' μ' => ∀ σ' φ' ψ' H', GoS φ ψ H φ' ψ' H' → RelS K mg ω φ' χ ψ0 ψ' μ' η' σ' H' → D.nx σ' H'
  | .bk η' μ' => ∀ σ' φ' ψ' H', GoS φ ψ H φ' ψ' H' → RelS K mg ω φ' χ ψ0 ψ' μ' η' σ' H' → D.bk σ' H'
  | .ct η' μ' => ∀ σ' φ' ψ' H', GoS φ ψ H φ' ψ' H' → RelS K mg ω φ' χ ψ0 ψ' μ' η' σ' H' → D.ct σ' H'
  | .rt d μ' => ∀ v φ' ψ' H', GoS φ ψ H φ' ψ' H' → MemOk K mg φ' (χ ++ (ψ0 ++ ψ')) μ' H' → Rp K φ' (χ ++ ψ0) H' d v → InN ψ' d v → D.rt v H'
  | .exc x η' μ' => ∀ cls a σ' φ' ψ' H', GoS φ ψ H φ' ψ' H' → RelS K mg ω φ' χ ψ0 ψ' μ' η' σ' H' → XOk K mg φ' χ H' x cls a → W cls a σ' H'
  | .stuck => False
section
variable {K : PySem.W.Frag} {mg : Str → Option Value} {W : WX} {ω : List Nat} {φ φ' χ ψ0 ψ ψ' : List Addr} {μ : Mem} {η : Env'} {σ : L2.St} {H H' : Hp} {D D' : Ends} {r : RS}
theorem PostS.go (p : PostS K mg W ω φ χ ψ0 ψ H r D) (g : GoS φ ψ H φ' ψ' H') : PostS K mg W ω φ' χ ψ0 ψ' H' r D := by
  cases r with
  | nx η' μ' => exact fun σ2 φ2 ψ2 H2 g2 m => p σ2 φ2 ψ2 H2 (g.trans g2) m
  | bk η' μ' => exact fun σ2 φ2 ψ2 H2 g2 m => p σ2 φ2 ψ2 H2 (g.trans g2) m
  | ct η' μ' => exact fun σ2 φ2 ψ2 H2 g2 m => p σ2 φ2 ψ2 H2 (g.trans g2) m
  | rt d μ' => exact fun v φ2 ψ2 H2 g2 m => p v φ2 ψ2 H2 (g.trans g2) m
  | exc x η' μ' => exact fun c a σ2 φ2 ψ2 H2 g2 m => p c a σ2 φ2 ψ2 H2 (g.trans g2) m
  | stuck => exact p
abbrev MS := Env' → Mem → RS
def rdS (K : PySem.W.Frag) (mg : Str → Option Value) (W : WX) (ω : List Nat) (m : MS) : TS := fun D σ H => ∃ φ χ ψ0 ψ μ η, RelS K mg ω φ χ ψ0 ψ μ η σ H ∧ PostS K mg W ω φ χ ψ0 ψ H (m η μ) D
def liftR {α : Type} (r : R α) (η : Env') (g : α → Mem → RS) : RS := match r with
  | .ok a μ => g a μ
  | .exc x μ => .exc x η μ
  | .stuck => .stuck
@[simp] theorem liftR_ok {α : Type} (a : α) (μ : Mem) (η : Env') (g : α → Mem → RS) : liftR (.ok a μ) η g = g a μ := (Eq.refl _).trans (Eq.refl _)
@[simp] theorem liftR_exc {α : Type} (x : Exn) (μ : Mem) (η : Env') (g : α → Mem → RS) : liftR (.exc x μ) η g = .exc x η μ := (Eq.refl _).trans (Eq.refl _)
@[simp] theorem liftR_stuck {α : Type} (η : Env') (g : α → Mem → RS) : liftR .stuck η g = .stuck := (Eq.refl _).trans (Eq.refl _)
theorem rdS_bind {α β : Type} {rep : List Addr → List Addr → List Addr → Hp → α → β → Prop} {m : Env' → Mem → R α} {g : α → Mem → RS} {C : β → Hp → Prop} (r : RelS K mg ω φ χ ψ0 ψ μ η σ H) (p : PostS K mg W ω φ χ ψ0 ψ H (liftR (m η μ) η g) D)
    (k : ∀ φ1 H1 μ1 d x, Go φ H φ1 H1 → RelS K mg ω φ1 χ ψ0 ψ μ1 η σ H1 → rep φ1 χ (ψ0 ++ ψ) H1 d x → PostS K mg W ω φ1 χ ψ0 ψ H1 (g d μ1) D → C x H1) : rd K mg W rep m σ H C := by
  refine ⟨φ, χ, ψ0 ++ ψ, μ, η, r.rel, ?_⟩
  cases h : m η μ with
  | ok d μ1 =>
    rw [h] at p
    exact fun v φ1 H1 g1 m1 rp => k φ1 H1 μ1 d v g1 (r.go g1 m1) rp (PostS.go p g1.s)
  | exc x μ1 =>
    rw [h] at p
    exact fun c a φ1 H1 g1 m1 rx => p c a σ φ1 ψ H1 g1.s (r.go g1 m1) rx
  | stuck => rw [h] at p; exact p
end
abbrev SS (X : Cx) (W : WX) (ω : List Nat) (st : Stmt) (m : MS) : Prop := PS X st (rdS X.K X.mg W ω m)
abbrev SSs (X : Cx) (W : WX) (ω : List Nat) (sts : List Stmt) (m : MS) : Prop := PSs X sts (rdS X.K X.mg W ω m)

def RS.bind : RS → MS → RS
  | .nx η μ, f => f η μ
  | r, _ => r
@[simp] theorem RS.bind_nx (η : Env') (μ : Mem) (f : MS) : (RS.nx η μ).bind f = f η μ := (Eq.refl _).trans (Eq.refl _)
@[simp] theorem RS.bind_rt (d : D) (μ : Mem) (f : MS) : (RS.rt d μ).bind f = .rt d μ := (Eq.refl _).trans (Eq.refl _)
@[simp] theorem RS.bind_exc (x : Exn) (η : Env') (μ : Mem) (f : MS) : (RS.exc x η μ).bind f = .exc x η μ := (Eq.refl _).trans (Eq.refl _)
@[simp] theorem RS.bind_bk (η : Env') (μ : Mem) (f : MS) : (RS.bk η μ).bind f = .bk η μ := (Eq.refl _).trans (Eq.refl _)
@[simp] theorem RS.bind_ct (η : Env') (μ : Mem) (f : MS) : (RS.ct η μ).bind f = .ct η μ := (Eq.refl _).trans (Eq.refl _)
@[simp] theorem RS.bind_stuck (f : MS) : RS.stuck.bind f = .stuck := (Eq.refl _).trans (Eq.refl _)
def sNext : MS := fun η μ => .nx η μ
def sSeq (a b : MS) : MS := fun η μ => (a η μ).bind b
def sIf (c : MB) (a b : MS) : MS := fun η μ => liftR (c η μ) η fun x μ1 => if x = true then a η μ1 else b η μ1
/-- x = e, x no own list -/
def sSet (ω : List Nat) (i : Nat) (m : MV) : MS := fun η μ => liftR (m η μ) η fun d μ1 => if (ω.isEmpty || noL d) = true then .nx (η.set i (some d)) μ1 else .stuck
def sRet (m : MV) : MS := fun η μ => liftR (m η μ) η fun d μ1 => if noL d = true then .rt d μ1 else .stuck
def sRetN : MS := fun _ μ => .rt .non μ
def sDrop (m : MV) : MS := fun η μ => liftR (m η μ) η fun _ μ1 => .nx η μ1
def sBreak : MS := fun η μ => .bk η μ
def sCont : MS := fun η μ => .ct η μ
/-- return x, x an own list -/
def sRetOwn (ω : List Nat) (i : Nat) : MS := fun η μ => if i ∈ ω then match η[i]? with
  | some (some d) => .rt d μ
  | _ => .stuck else .stuck
section
variable {X : Cx} {W : WX} {ω : List Nat} {st : Stmt} {sts a b : List Stmt} {c e : Expr} {m : MS} {ma mb : MS} {tc : MB} {mv : MV} {pos pos' : Pos} {i : Nat} {x : Str}
theorem sss_nil : SSs X W ω [] sNext := pss_nil.imp fun D σ H q => by
  obtain ⟨φ, χ, ψ0, ψ, μ, η, r, p⟩ := q
  exact p σ φ ψ H .refl r
theorem seq_run {D : Ends} {σ : L2.St} {H : Hp} (q : rdS X.K X.mg W ω (sSeq ma mb) D σ H) : rdS X.K X.mg W ω ma { D with nx := rdS X.K X.mg W ω mb D } σ H := by
  obtain ⟨φ, χ, ψ0, ψ, μ, η, r, p⟩ := q
  refine ⟨φ, χ, ψ0, ψ, μ, η, r, ?_⟩
  unfold sSeq at p
  cases h : ma η μ with
  | nx η' μ' =>
    rw [h] at p
    exact fun σ' φ' ψ' H' g r' => ⟨φ', χ, ψ0, ψ', μ', η', r', PostS.go p g⟩
  | rt d μ' => rw [h] at p; exact p
  | bk η' μ' => rw [h] at p; exact p
  | ct η' μ' => rw [h] at p; exact p
  | exc x η' μ' => rw [h] at p; exact p
  | stuck => rw [h] at p; exact p
theorem sss_cons (h : SS X W ω st ma) (h' : SSs X W ω sts mb) : SSs X W ω (st :: sts) (sSeq ma mb) := (pss_cons h h').imp fun _ _ _ q => seq_run q
theorem sss_one (h : SS X W ω st ma) : SSs X W ω [st] ma := pss_one h
theorem ss_if (hc : TT' X W c tc) (ha : SSs X W ω a ma) (hb : SSs X W ω b mb) : SS X W ω (.If c a b pos) (sIf tc ma mb) := (ps_if hc ha hb).imp fun D σ H q => by
  obtain ⟨φ, χ, ψ0, ψ, μ, η, r, p⟩ := q
  refine rdS_bind r p fun φ1 H1 μ1 d x g1 r1 rx p1 => ?_
  cases rx
  cases d with
  | true => exact ⟨φ1, χ, ψ0, ψ, μ1, η, r1, p1⟩
  | false => exact ⟨φ1, χ, ψ0, ψ, μ1, η, r1, p1⟩
theorem RelS.set {K : PySem.W.Frag} {mg : Str → Option Value} {φ χ ψ0 ψ : List Addr} {μ : Mem} {η : Env'} {σ : L2.St} {H : Hp} {d : D} {v : V} (r : RelS K mg ω φ χ ψ0 ψ μ η σ H) (hi : i ∉ ω) (h : Rp K φ (χ ++ ψ) H d v) :
    RelS K mg ω φ χ ψ0 ψ μ (η.set i (some d)) (σ.set i (some v)) H := by
  have ne : ∀ j ∈ ω, i ≠ j := fun j hj z => hi (z ▸ hj)
  refine ⟨r.mem, r.off, r.emp, by simp [r.len], fun j e hj he => ?_, fun j e hj he => ?_, fun j k e f u hj hk hjk e1 e2 e3 e4 => ?_⟩
  · by_cases q : i = j
    · subst q
      by_cases hl : i < η.length
      · rw [List.getElem?_set_self hl] at he
        cases he
        exact ⟨v, by rw [List.getElem?_set_self (by rw [← r.len]; exact hl)], h⟩
      · rw [List.getElem?_eq_none_iff.mpr (by simpa using hl)] at he
        cases he
    · rw [List.getElem?_set_ne q] at he ⊢
      exact r.ats j e hj he
  · rw [List.getElem?_set_ne (ne j hj)] at he ⊢
    exact r.own j e hj he
  · rw [List.getElem?_set_ne (ne j hj)] at e1 e3
    rw [List.getElem?_set_ne (ne k hk)] at e2 e4
    exact r.sep j k e f u hj hk hjk e1 e2 e3 e4
theorem RelS.sealed {K : PySem.W.Frag} {mg : Str → Option Value} {φ χ ψ0 ψ : List Addr} {μ : Mem} {η : Env'} {σ : L2.St} {H : Hp} {d : D} {v : V} (r : RelS K mg ω φ χ ψ0 ψ μ η σ H) (c : (ω.isEmpty || noL d) = true) (h : Rp K φ χ H d v) : Rp K φ (χ ++ ψ) H d v := by
  rcases Bool.or_eq_true _ _ ▸ c with c | c
  · rw [r.emp (List.isEmpty_iff.mp c), List.append_nil]; exact h
  · exact noL_rp c h
theorem ss_set (hN : X.N.Nodup) (hi : X.N[i]? = some x) (hx : Loc X.env.scope x) (h : EE X W e mv) (ho : i ∉ ω := by decide) (hs : swapsWith e (some (.Name x pos')) pos.line X.env = pure false := by rfl) (hf : X.fn x = true ∨ X.env.scope.names.lookup x = some .local := by first | exact .inl rfl | exact .inr rfl | assumption) :
    SS X W ω (.Assign [.Name x pos'] e pos) (sSet ω i mv) := (ps_set hN hi hx h hs hf).imp fun D σ H q => by
  obtain ⟨φ, χ, ψ0, ψ, μ, η, r, p⟩ := q
  refine rdS_bind r p fun φ1 H1 μ1 d v g1 r1 rv p1 => ?_
  split at p1
  · rename_i c
    exact p1 _ φ1 ψ H1 .refl (r1.set ho (r1.sealed c rv))
  · exact p1.elim
theorem ss_ret (h : EE X W e mv) : SS X W ω (.Return (some e) pos) (sRet mv) := (ps_ret h).imp fun D σ H q => by
  obtain ⟨φ, χ, ψ0, ψ, μ, η, r, p⟩ := q
  refine rdS_bind r p fun φ1 H1 μ1 d v g1 r1 rv p1 => ?_
  split at p1
  · rename_i c
    exact p1 v φ1 ψ H1 .refl r1.mem (noL_rp c rv) (InN.noL c)
  · exact p1.elim
theorem ss_retN : SS X W ω (.Return none pos) sRetN := ps_retN.imp fun D σ H q => by
  obtain ⟨φ, χ, ψ0, ψ, μ, η, r, p⟩ := q
  exact p .non φ ψ H .refl r.mem rfl trivial
theorem ss_expr (h : EE X W e mv) (hs : swapsWith e none pos.line X.env = pure false := by rfl) : SS X W ω (.Expr e pos) (sDrop mv) := (ps_expr h hs).imp fun D σ H q => by
  obtain ⟨φ, χ, ψ0, ψ, μ, η, r, p⟩ := q
  refine rdS_bind r p fun φ1 H1 μ1 d v g1 r1 rv p1 => ?_
  exact p1 σ φ1 ψ H1 .refl r1
theorem ss_pass : SS X W ω (.Pass pos) sNext := ps_pass.imp fun D σ H q => by
  obtain ⟨φ, χ, ψ0, ψ, μ, η, r, p⟩ := q
  exact p σ φ ψ H .refl r
theorem ss_doc {x j pos pos'} : SS X W ω (.Expr (.Constant (.str x) j pos) pos') sNext := ps_doc.imp fun D σ H q => by
  obtain ⟨φ, χ, ψ0, ψ, μ, η, r, p⟩ := q
  exact p σ φ ψ H .refl r
theorem ss_break : SS X W ω (.Break pos) sBreak := ps_break.imp fun D σ H q => by
  obtain ⟨φ, χ, ψ0, ψ, μ, η, r, p⟩ := q
  exact p σ φ ψ H .refl r
theorem ss_cont : SS X W ω (.Continue pos) sCont := ps_continue.imp fun D σ H q => by
  obtain ⟨φ, χ, ψ0, ψ, μ, η, r, p⟩ := q
  exact p σ φ ψ H .refl r
/-- return x, x an own list -/
theorem ss_retOwn (h : PE X e (tVar i)) : SS X W ω (.Return (some e) pos) (sRetOwn ω i) := (ps_ret h).imp fun D σ H q => by
  obtain ⟨φ, χ, ψ0, ψ, μ, η, r, p⟩ := q
  unfold sRetOwn at p
  split at p
  · rename_i hi
    split at p
    · rename_i d hd
      obtain ⟨v, hv, a, rfl, ha, q⟩ := r.own i d hi hd
      refine ⟨_, hv, ?_⟩
      cases d with
      | lst ds =>
        obtain ⟨xs, q, rx⟩ := q
        exact p _ φ ψ H .refl r.mem ⟨a, xs, rfl, ⟨r.ψφ a ha, by simp [r.off a ha]⟩, q, rx.less fun b z => by
          rcases List.mem_append.mp z with z | z <;> simp [z]⟩ fun b e => by cases e; exact ha
      | dic ks ds =>
        obtain ⟨xs, q, l, rx⟩ := q
        exact p _ φ ψ H .refl r.mem ⟨a, xs, rfl, ⟨r.ψφ a ha, by simp [r.off a ha]⟩, q, l, rx.less fun b z => by
          rcases List.mem_append.mp z with z | z <;> simp [z]⟩ fun b e => by cases e; exact ha
      | _ => exact q.elim
    · exact p.elim
  · exact p.elim
end

/-! ### new lists -/
/-- what is wanted behind an expression that hands back no list that stood before: N the new ones -/
def PostF (K : PySem.W.Frag) (mg : Str → Option Value) (W : WX) (σ : L2.St) (φ χ ψ : List Addr) (H : Hp) (r : R D) (Q : VK) : Prop :=
  match r with
  | .ok d μ' => ∀ v φ' N H', Go φ H φ' H' → MemOk K mg φ' (χ ++ (ψ ++ N)) μ' H' → (∀ a ∈ N, H a = none) → Rp K φ' χ H' d v → InN N d v → Q v H'
  | .exc x μ' => ∀ cls a φ' H', Go φ H φ' H' → MemOk K mg φ' (χ ++ ψ) μ' H' → XOk K mg φ' χ H' x cls a → W cls a σ H'
  | .stuck => False
def rdF (K : PySem.W.Frag) (mg : Str → Option Value) (W : WX) (m : MV) : TE := fun σ H Q =>
  ∃ φ χ ψ μ η, Rel K mg φ χ ψ μ η σ H ∧ PostF K mg W σ φ χ ψ H (m η μ) Q
abbrev EF (X : Cx) (W : WX) (e : Expr) (m : MV) : Prop := PE X e (rdF X.K X.mg W m)
theorem MemOk.lessN {K : PySem.W.Frag} {mg : Str → Option Value} {φ χ ψ N : List Addr} {μ : Mem} {H : Hp} (m : MemOk K mg φ (χ ++ (ψ ++ N)) μ H) : MemOk K mg φ (χ ++ ψ) μ H := m.less fun a z => by
  simp only [List.mem_append] at z ⊢
  rcases z with z | z <;> simp [z]
theorem ef_ee {X : Cx} {W : WX} {e : Expr} {m : MV} (h : EF X W e m) : EE X W e m := h.imp fun σ H Q q => by
  obtain ⟨φ, χ, ψ, μ, η, r, p⟩ := q
  refine ⟨φ, χ, ψ, μ, η, r, ?_⟩
  cases h : m η μ with
  | ok d μ1 => rw [h] at p; exact fun v φ' N H' g m _ rp _ => p v φ' H' g m.lessN rp
  | exc x μ1 => rw [h] at p; exact p
  | stuck => rw [h] at p; exact p
/-- d is a list of plain things, or a plain thing -/
def retOk : D → Bool
  | .lst l => noLs l
  | d => noL d
theorem retOk_rp {K : PySem.W.Frag} {φ χ χ' : List Addr} {H : Hp} {d : D} {v : V} (c : retOk d = true) (h : Rp K φ χ H d v) (f : ∀ l a, d = .lst l → v = .ref a → a ∉ χ') : Rp K φ χ' H d v := by
  cases d with
  | lst l =>
    obtain ⟨a, xs, rfl, n, q, r⟩ := h
    exact ⟨a, xs, rfl, ⟨n.1, f l a rfl rfl⟩, q, noLs_rp c r⟩
  | _ => exact noL_rp c h
def sRetF (m : MV) : MS := fun η μ => liftR (m η μ) η fun d μ1 => if retOk d = true then .rt d μ1 else .stuck
/-- x = e, x an own list -/
def sOwn (i : Nat) (m : MV) : MS := fun η μ => liftR (m η μ) η fun d μ1 => match d with
  | .lst l => if noLs l = true then .nx (η.set i (some (.lst l))) μ1 else .stuck
  | _ => .stuck
section
variable {X : Cx} {W : WX} {ω : List Nat} {e : Expr} {mv : MV} {pos pos' : Pos} {i : Nat} {x : Str}
theorem rdF_bind {K : PySem.W.Frag} {mg : Str → Option Value} {φ χ ψ0 ψ : List Addr} {μ : Mem} {η : Env'} {σ : L2.St} {H : Hp} {D : Ends} {m : MV} {g : FP.D → Mem → RS} {C : VK} (r : RelS K mg ω φ χ ψ0 ψ μ η σ H) (p : PostS K mg W ω φ χ ψ0 ψ H (liftR (m η μ) η g) D)
    (k : ∀ φ1 H1 μ1 N d x, Go φ H φ1 H1 → RelS K mg ω φ1 χ ψ0 ψ μ1 η σ H1 → MemOk K mg φ1 (χ ++ ((ψ0 ++ ψ) ++ N)) μ1 H1 → (∀ a ∈ N, H a = none) → Rp K φ1 χ H1 d x → InN N d x → PostS K mg W ω φ χ ψ0 ψ H (g d μ1) D → C x H1) : rdF K mg W m σ H C := by
  refine ⟨φ, χ, ψ0 ++ ψ, μ, η, r.rel, ?_⟩
  cases h : m η μ with
  | ok d μ1 =>
    rw [h] at p
    exact fun v φ1 N H1 g1 m1 hN rp hi => k φ1 H1 μ1 N d v g1 (r.go g1 m1.lessN) m1 hN rp hi p
  | exc x μ1 =>
    rw [h] at p
    exact fun c a φ1 H1 g1 m1 rx => p c a σ φ1 ψ H1 g1.s (r.go g1 m1) rx
  | stuck => rw [h] at p; exact p
theorem ss_retF (h : EF X W e mv) : SS X W ω (.Return (some e) pos) (sRetF mv) := (ps_ret h).imp fun D σ H q => by
  obtain ⟨φ, χ, ψ0, ψ, μ, η, r, p⟩ := q
  refine rdF_bind r p fun φ1 H1 μ1 N d v g1 r1 m1 hN rv hi p1 => ?_
  split at p1
  · rename_i c
    have mem : ∀ a ∈ N, a ∉ χ ++ (ψ0 ++ ψ) := fun a z => Gr.off r.mem (hN a z)
    refine p1 v φ1 (ψ ++ N) H1 ⟨⟨fun a z => ?_, fun a o hm e => g1.gr.keep a o (fun z => hm (List.mem_append_left _ z)) e, g1.gr.there⟩, g1.ext, g1.gr.pre, fun a z => ?_⟩ (by simpa [List.append_assoc] using m1) (retOk_rp c rv fun l a e1 e2 => ?_) ?_
    · simp only [List.mem_append] at z ⊢
      rcases z with z | z | z
      · exact (g1.gr.pre a z).imp_left .inl
      · exact .inl (.inr z)
      · exact .inr (hN a z)
    · rcases List.mem_append.mp z with z | z
      · exact .inl z
      · exact .inr (hN a z)
    · subst e1
      have := mem a (hi a e2)
      simp only [List.mem_append, not_or] at this ⊢
      exact ⟨this.1, this.2.1⟩
    · cases d with
      | lst l => exact fun a e => List.mem_append_right _ (hi a e)
      | dic ks l => exact fun a e => List.mem_append_right _ (hi a e)
      | _ => trivial
  · exact p1.elim
theorem RelS.newOwn {K : PySem.W.Frag} {mg : Str → Option Value} {φ φ1 χ ψ0 ψ : List Addr} {μ μ1 : Mem} {η : Env'} {σ : L2.St} {H H1 : Hp} {d : FP.D} {a : Addr} (r0 : RelS K mg ω φ χ ψ0 ψ μ η σ H) (g : Go φ H φ1 H1) (m : MemOk K mg φ1 (χ ++ (ψ0 ++ ψ)) μ1 H1) (hi : i ∈ ω) (hn : H a = none) (ha : a ∉ φ1) (ht : ∃ o, H1 a = some o)
    (m2 : MemOk K mg φ1 (χ ++ (ψ0 ++ (a :: ψ))) μ1 H1)
    (h : OwnAt K φ1 (χ ++ (ψ0 ++ (a :: ψ))) (a :: ψ) H1 d (.ref a)) : RelS K mg ω φ1 χ ψ0 (a :: ψ) μ1 (η.set i (some d)) (σ.set i (some (.ref a))) H1 := by
  have off := Gr.off r0.mem hn
  simp only [List.mem_append, not_or] at off
  have addψ : ∀ {d v}, Rp K φ (χ ++ ψ) H d v → Rp K φ1 (χ ++ (a :: ψ)) H1 d v := fun h => (g.rp (h.more hn)).less fun b z => by
    simp only [List.mem_append, List.mem_cons] at z ⊢
    rcases z with z | z | z <;> simp [z]
  have addL : ∀ {ds xs}, RpL K φ (χ ++ (ψ0 ++ ψ)) H ds xs → RpL K φ1 (χ ++ (ψ0 ++ (a :: ψ))) H1 ds xs := fun h => (g.rpL (h.more hn)).less fun b z => by
    simp only [List.mem_append, List.mem_cons] at z ⊢
    rcases z with z | z | z | z <;> simp [z]
  have ownNe : ∀ j e, j ∈ ω → η[j]? = some (some e) → ∃ b, σ[j]? = some (some (.ref b)) ∧ b ≠ a := fun j e hj he => by
    obtain ⟨v, hv, b, rfl, hb, _⟩ := r0.own j e hj he
    exact ⟨b, hv, fun z => off.2.2 (z ▸ hb)⟩
  refine ⟨m2, fun b z => ?_, fun z => absurd hi (by rw [z]; exact fun w => nomatch w), by simp [r0.len], fun j e hj he => ?_, fun j e hj he => ?_, fun j k e f u hj hk hjk e1 e2 e3 e4 => ?_⟩
  · rcases List.mem_cons.mp z with rfl | z
    · exact ⟨off.1, off.2.1⟩
    · exact r0.off b z
  · have ne : i ≠ j := fun z => hj (z ▸ hi)
    rw [List.getElem?_set_ne ne] at he ⊢
    obtain ⟨v, hv, rv⟩ := r0.ats j e hj he
    exact ⟨v, hv, addψ rv⟩
  · by_cases q : i = j
    · subst q
      by_cases hl : i < η.length
      · rw [List.getElem?_set_self hl] at he
        cases he
        exact ⟨_, by rw [List.getElem?_set_self (by rw [← r0.len]; exact hl)], h⟩
      · rw [List.getElem?_eq_none_iff.mpr (by simpa using hl)] at he
        cases he
    · rw [List.getElem?_set_ne q] at he ⊢
      obtain ⟨v, hv, b, rfl, hb, q⟩ := r0.own j e hj he
      refine ⟨_, hv, b, rfl, List.mem_cons_of_mem _ hb, ?_⟩
      have kp : ∀ o, H b = some o → H1 b = some o := fun o e => g.gr.keep b o (fun z => absurd z (r0.ψφ b hb)) e
      cases e with
      | lst ds => obtain ⟨xs, q, r⟩ := q; exact ⟨xs, kp _ q, addL r⟩
      | dic ks ds => obtain ⟨xs, q, l, r⟩ := q; exact ⟨xs, kp _ q, l, addL r⟩
      | _ => exact q
  · by_cases q : i = j
    · subst q
      have nk : i ≠ k := hjk
      rw [List.getElem?_set_ne nk] at e2 e4
      obtain ⟨b, hb, hne⟩ := ownNe k f hk e2
      by_cases hl : i < σ.length
      · rw [List.getElem?_set_self hl] at e3
        rw [hb] at e4
        cases e3; cases e4
        exact hne rfl
      · rw [List.getElem?_eq_none_iff.mpr (by simpa using hl)] at e3
        cases e3
    · rw [List.getElem?_set_ne q] at e1 e3
      by_cases q2 : i = k
      · subst q2
        obtain ⟨b, hb, hne⟩ := ownNe j e hj e1
        by_cases hl : i < σ.length
        · rw [List.getElem?_set_self hl] at e4
          rw [hb] at e3
          cases e3; cases e4
          exact hne rfl
        · rw [List.getElem?_eq_none_iff.mpr (by simpa using hl)] at e4
          cases e4
      · rw [List.getElem?_set_ne q2] at e2 e4
        exact r0.sep j k e f u hj hk hjk e1 e2 e3 e4
theorem ss_own (hN : X.N.Nodup) (hi : X.N[i]? = some x) (hx : Loc X.env.scope x) (h : EF X W e mv) (ho : i ∈ ω := by decide) (hs : swapsWith e (some (.Name x pos')) pos.line X.env = pure false := by rfl) (hf : X.fn x = true ∨ X.env.scope.names.lookup x = some .local := by first | exact .inl rfl | exact .inr rfl | assumption) :
    SS X W ω (.Assign [.Name x pos'] e pos) (sOwn i mv) := (ps_set hN hi hx h hs hf).imp fun D σ H q => by
  obtain ⟨φ, χ, ψ0, ψ, μ, η, r, p⟩ := q
  refine rdF_bind r p fun φ1 H1 μ1 N d v g1 r1 m1 hN rv hin p1 => ?_
  split at p1
  · rename_i l
    split at p1
    · rename_i c
      obtain ⟨a, xs, rfl, n, q, rx⟩ := rv
      have ha : a ∈ N := hin a rfl
      have m2 : MemOk X.K X.mg φ1 (χ ++ (ψ0 ++ (a :: ψ))) μ1 H1 := m1.less fun b z => by
        simp only [List.mem_append, List.mem_cons] at z ⊢
        rcases z with z | z | rfl | z <;> simp [*]
      have rs := RelS.newOwn (i := i) (d := .lst l) r g1 r1.mem ho (hN a ha) n.1 ⟨_, q⟩ m2 ⟨a, rfl, List.mem_cons_self, xs, q, noLs_rp c rx⟩
      refine p1 _ φ1 (a :: ψ) H1 ⟨⟨fun b z => ?_, fun b o hm e => g1.gr.keep b o (fun z => hm (List.mem_append_left _ z)) e, g1.gr.there⟩, g1.ext, g1.gr.pre, fun b z => ?_⟩ rs
      · simp only [List.mem_append, List.mem_cons] at z ⊢
        rcases z with z | rfl | z
        · exact (g1.gr.pre b z).imp_left .inl
        · exact .inr (hN b ha)
        · exact .inl (.inr z)
      · rcases List.mem_cons.mp z with rfl | z
        · exact .inr (hN b ha)
        · exact .inl z
    · exact p1.elim
  · exact p1.elim
/-- a new dict -/
def sOwnD (i : Nat) : MS := fun η μ => .nx (η.set i (some (.dic [] []))) μ
theorem ss_ownD (hN : X.N.Nodup) (hi : X.N[i]? = some x) (hx : Loc X.env.scope x) {dpos : Pos} (ho : i ∈ ω := by decide) (hs : swapsWith (.Dict [] [] dpos) (some (.Name x pos')) pos.line X.env = pure false := by rfl) (hf : X.fn x = true ∨ X.env.scope.names.lookup x = some .local := by first | exact .inl rfl | exact .inr rfl | assumption) :
    SS X W ω (.Assign [.Name x pos'] (.Dict [] [] dpos) pos) (sOwnD i) := (ps_set hN hi hx pe_dnewK hs hf).imp fun D σ H q a ha => by
  obtain ⟨φ, χ, ψ0, ψ, μ, η, r, p⟩ := q
  have g1 : Go φ H φ (upd H a (.dK [])) := .new ha
  have n1 := Gr.notin r.mem ha
  have m2 : MemOk X.K X.mg φ (χ ++ (ψ0 ++ (a :: ψ))) μ (upd H a (.dK [])) := (r.mem.hid ha).less fun b z => by
    simp only [List.mem_append, List.mem_cons] at z ⊢
    rcases z with z | z | rfl | z <;> simp [*]
  have rs := RelS.newOwn (i := i) (d := .dic [] []) r g1 (r.mem.new ha) ho ha n1 ⟨_, upd_same⟩ m2 ⟨a, rfl, List.mem_cons_self, [], upd_same, rfl, .nil⟩
  refine p _ φ (a :: ψ) _ ⟨⟨fun b z => ?_, fun b o hm e => g1.gr.keep b o (fun z => hm (List.mem_append_left _ z)) e, g1.gr.there⟩, g1.ext, g1.gr.pre, fun b z => ?_⟩ rs
  · simp only [List.mem_append, List.mem_cons] at z ⊢
    rcases z with z | rfl | z
    · exact .inl (.inl z)
    · exact .inr ha
    · exact .inl (.inr z)
  · rcases List.mem_cons.mp z with rfl | z
    · exact .inr ha
    · exact .inl z
/-! own lists and dicts change -/
theorem RelS.ownSet {K : PySem.W.Frag} {mg : Str → Option Value} {φ χ ψ0 ψ : List Addr} {μ : Mem} {η : Env'} {σ : L2.St} {H : Hp} {d d' : FP.D} {a : Addr} {o u : HO} (r : RelS K mg ω φ χ ψ0 ψ μ η σ H) (hi : i ∈ ω) (hd : η[i]? = some (some d)) (hv : σ[i]? = some (some (.ref a))) (ha : a ∈ ψ) (ho : H a = some o) (hm : Mut (some o))
    (h : OwnAt K φ (χ ++ (ψ0 ++ ψ)) ψ (upd H a u) d' (.ref a)) : RelS K mg ω φ χ ψ0 ψ μ (η.set i (some d')) σ (upd H a u) := by
  have hΨ : a ∈ χ ++ (ψ0 ++ ψ) := by simp [ha]
  refine ⟨r.mem.hidden hΨ ho hm, r.off, r.emp, by simp [r.len], fun j e hj he => ?_, fun j e hj he => ?_, fun j k e f v hj hk hjk e1 e2 e3 e4 => ?_⟩
  · have ne : i ≠ j := fun z => hj (z ▸ hi)
    rw [List.getElem?_set_ne ne] at he
    obtain ⟨v, hv, rv⟩ := r.ats j e hj he
    exact ⟨v, hv, rv.hidden (by simp [ha]) ho hm⟩
  · by_cases q : i = j
    · subst q
      have hl : i < η.length := (List.getElem?_eq_some_iff.mp hd).1
      rw [List.getElem?_set_self hl] at he
      cases he
      exact ⟨_, hv, h⟩
    · rw [List.getElem?_set_ne q] at he
      obtain ⟨v, hv2, b, rfl, hb, q2⟩ := r.own j e hj he
      have ne : b ≠ a := fun z => r.sep i j d e (.ref a) hi hj q hd he hv (z ▸ hv2)
      refine ⟨_, hv2, b, rfl, hb, ?_⟩
      cases e with
      | lst ds => obtain ⟨xs, q3, r3⟩ := q2; exact ⟨xs, by rw [upd_ne ne]; exact q3, r3.hidden hΨ ho hm⟩
      | dic ks ds => obtain ⟨xs, q3, l, r3⟩ := q2; exact ⟨xs, by rw [upd_ne ne]; exact q3, l, r3.hidden hΨ ho hm⟩
      | _ => exact q2
  · have get : ∀ j e, (η.set i (some d'))[j]? = some (some e) → ∃ e', η[j]? = some (some e') := fun j e he => by
      by_cases q : i = j
      · subst q; exact ⟨d, hd⟩
      · rw [List.getElem?_set_ne q] at he; exact ⟨e, he⟩
    obtain ⟨e', h1⟩ := get j e e1
    obtain ⟨f', h2⟩ := get k f e2
    exact r.sep j k e' f' v hj hk hjk h1 h2 e3 e4
theorem GoS.mut {φ ψ : List Addr} {H : Hp} {a : Addr} {o u : HO} (ha : a ∈ ψ) (ho : H a = some o) (hm : Mut (some o)) : GoS φ ψ H φ ψ (upd H a u) :=
  ⟨.mut (List.mem_append_right _ ha) ho hm, .refl, fun _ h => .inl h, fun _ h => .inl h⟩
/-- x.append(e), x an own list -/
def sAppend (ω : List Nat) (i : Nat) (m : MV) : MS := fun η μ => if i ∈ ω then match η[i]? with
  | some (some (.lst l)) => liftR (m η μ) η fun d μ1 => if (noL d && decide (l.length < 10000000)) = true then .nx (η.set i (some (.lst (l ++ [d])))) μ1 else .stuck
  | _ => .stuck else .stuck
theorem ss_append {apos cpos : Pos} (hv : PE X (.Name x pos') (tVar i)) (h : EE X W e mv)
    (hbase : PE X (.Call (.Attribute (.Name x pos') "append" apos) [e] [] cpos) (tBM X.K "list" rAppend (tVar i) (tCons (rd X.K X.mg W (rV X.K) mv) tNil)))
    (hs : swapsWith (.Call (.Attribute (.Name x pos') "append" apos) [e] [] cpos) none pos.line X.env = pure false := by rfl) : SS X W ω (.Expr (.Call (.Attribute (.Name x pos') "append" apos) [e] [] cpos) pos) (sAppend ω i mv) := (ps_expr hbase hs).imp fun D σ H q => by
  obtain ⟨φ, χ, ψ0, ψ, μ, η, r, p⟩ := q
  unfold sAppend at p
  split at p
  · rename_i hi
    split at p
    · rename_i l hl
      obtain ⟨v, hv, a, rfl, ha, xs, q, rx⟩ := r.own i _ hi hl
      refine ⟨_, hv, .inl ⟨rfl, _, .inl (.inl q)⟩, ?_⟩
      refine rdS_bind r p fun φ1 H1 μ1 d y g1 r1 ry p1 => ?_
      split at p1
      · rename_i c
        simp only [Bool.and_eq_true, decide_eq_true_eq] at c
        obtain ⟨v, hv1, b, e1, hb, ys, q1, rx1⟩ := r1.own i _ hi hl
        rw [hv] at hv1
        cases hv1; cases e1
        refine ⟨a, ys, y, rfl, rfl, q1, Nat.lt_of_lt_of_le (by rw [rx1.length]; exact c.2) (line_le (Nat.le_refl _)), ?_⟩
        have rs := RelS.ownSet (d' := .lst (l ++ [d])) (u := .lst (ys ++ [y])) r1 hi hl hv ha q1 trivial ⟨a, rfl, ha, _, upd_same, (rx1.append (.cons (noL_rp c.1 ry) .nil)).hidden (by simp [ha]) q1 trivial⟩
        exact p1 _ φ1 ψ _ (.mut ha q1 trivial) rs
      · exact p1.elim
    · exact p.elim
  · exact p.elim
/-! dicts -/
def keyD : FP.D → Option Key
  | .int i => some (.inl i)
  | .str s => some (.inr s)
  | _ => none
theorem keyD_rp {K : PySem.W.Frag} {φ χ : List Addr} {H : Hp} {d : FP.D} {v : V} {k : Key} (h : keyD d = some k) (r : Rp K φ χ H d v) : v = kV k := by
  cases d <;> first | (cases h; done) | (cases h; cases r; rfl)
def dget : List Key → List FP.D → Key → Option FP.D
  | k' :: ks, d :: ds, k => if k' = k then some d else dget ks ds k
  | _, _, _ => none
theorem dget_rp {K : PySem.W.Frag} {φ χ : List Addr} {H : Hp} {k : Key} : ∀ {ks : List Key} {ds : List FP.D} {xs : List V}, ks.length = ds.length → RpL K φ χ H ds xs → match dget ks ds k with
    | some d => ∃ v, valV (ks.zip xs) k = some v ∧ Rp K φ χ H d v
    | none => valV (ks.zip xs) k = none
  | [], [], _, _, r => by cases r; rfl
  | [], _ :: _, _, h, _ => by simp at h
  | _ :: _, [], _, h, _ => by simp at h
  | k' :: ks, d :: ds, _, h, r => by
    obtain ⟨x, q, rfl, r1, r2⟩ := r
    have ih := dget_rp (k := k) (ks := ks) (by simpa using h) r2
    unfold dget
    by_cases e : k' = k
    · rw [if_pos e]
      refine ⟨x, ?_, r1⟩
      simp [valV, e]
    · rw [if_neg e]
      have e2 : valV ((k' :: ks).zip (x :: q)) k = valV (ks.zip q) k := by simp [valV, e]
      rw [e2]; exact ih
def dputL (k : Key) (d : FP.D) : List Key → List FP.D → List FP.D
  | k' :: ks, d' :: ds => (if k' = k then d else d') :: dputL k d ks ds
  | _, _ => []
def hasK (ks : List Key) (k : Key) : Bool := ks.any fun k' => decide (k' = k)
def dputK (ks : List Key) (k : Key) : List Key := if hasK ks k = true then ks else ks ++ [k]
def dputV (ks : List Key) (ds : List FP.D) (k : Key) (d : FP.D) : List FP.D := if hasK ks k = true then dputL k d ks ds else ds ++ [d]
theorem dput_rp {K : PySem.W.Frag} {φ χ : List Addr} {H : Hp} {k : Key} {d : FP.D} {v : V} {ks : List Key} {ds : List FP.D} {xs : List V} (hl : ks.length = ds.length) (r : RpL K φ χ H ds xs) (rv : Rp K φ χ H d v) :
    ∃ ys, putK (ks.zip xs) k v = (dputK ks k).zip ys ∧ (dputK ks k).length = (dputV ks ds k d).length ∧ RpL K φ χ H (dputV ks ds k d) ys := by
  have hx := r.length
  have key : ∀ (ks : List Key) (ds : List FP.D) (xs : List V), ks.length = ds.length → RpL K φ χ H ds xs → ∃ ys, (ks.zip xs).map (fun kv => if kv.1 = k then (kv.1, v) else kv) = ks.zip ys ∧ ks.length = (dputL k d ks ds).length ∧ RpL K φ χ H (dputL k d ks ds) ys := by
    intro ks
    induction ks with
    | nil => intro ds xs h r; cases ds with
      | nil => cases r; exact ⟨[], rfl, rfl, rfl⟩
      | cons _ _ => simp at h
    | cons k' ks ih =>
      intro ds xs h r
      cases ds with
      | nil => simp at h
      | cons d' ds =>
        obtain ⟨x, q, rfl, r1, r2⟩ := r
        obtain ⟨ys, e1, e2, e3⟩ := ih ds q (by simpa using h) r2
        refine ⟨(if k' = k then v else x) :: ys, ?_, by simp [dputL, e2], ?_⟩
        · simp only [List.zip_cons_cons, List.map_cons, e1]
          by_cases e : k' = k <;> simp [e]
        · refine ⟨_, _, rfl, ?_, e3⟩
          by_cases e : k' = k
          · simp only [if_pos e]; exact rv
          · simp only [if_neg e]; exact r1
  have hany : ∀ (ks : List Key) (xs : List V), xs.length = ks.length → ((ks.zip xs).any fun kv => decide (kv.1 = k)) = hasK ks k := by
    intro ks
    induction ks with
    | nil => intro xs _; rfl
    | cons k' ks ih =>
      intro xs h
      cases xs with
      | nil => simp at h
      | cons x xs =>
        have := ih xs (by simpa using h)
        unfold hasK at this ⊢
        simp only [List.zip_cons_cons, List.any_cons, this]
  unfold putK dputK dputV
  rw [hany ks xs (by omega)]
  by_cases h : hasK ks k = true
  · simp only [h, if_true]
    exact key ks ds xs hl r
  · simp only [h, if_false, Bool.false_eq_true]
    refine ⟨xs ++ [v], ?_, by simp [hl], r.append (.cons rv .nil)⟩
    rw [List.zip_append (by omega)]
    rfl
/-- x[k] = e, x an own dict -/
def sDSet (ω : List Nat) (i : Nat) (mk m : MV) : MS := fun η μ => if i ∈ ω then match η[i]? with
  | some (some (.dic ks ds)) => liftR (m η μ) η fun d μ1 => liftR (mk η μ1) η fun kd μ2 => match keyD kd with
    | some k => if (noL d && decide (ks.length < 10000000)) = true then .nx (η.set i (some (.dic (dputK ks k) (dputV ks ds k d)))) μ2 else .stuck
    | none => .stuck
  | _ => .stuck else .stuck
theorem ss_dset {k : Expr} {mk : MV} {spos : Pos} (hu : X.A.units + 1 < cLine) (hv : PE X (.Name x pos') (tVar i)) (hk : EE X W k mk) (h : EE X W e mv)
    (hs : swapsWith e (some (.Subscript (.Name x pos') k spos)) pos.line X.env = pure false := by rfl) : SS X W ω (.Assign [.Subscript (.Name x pos') k spos] e pos) (sDSet ω i mk mv) := (ps_dput hu hv hk h hs).imp fun D σ H q => by
  obtain ⟨φ, χ, ψ0, ψ, μ, η, r, p⟩ := q
  unfold sDSet at p
  split at p
  · rename_i hi
    split at p
    · rename_i ks ds hl
      refine rdS_bind r p fun φ1 H1 μ1 d y g1 r1 ry p1 => ?_
      obtain ⟨v, hv, a, rfl, ha, _⟩ := r1.own i _ hi hl
      refine ⟨_, hv, ?_⟩
      refine rdS_bind r1 p1 fun φ2 H2 μ2 kd y2 g2 r2 rk p2 => ?_
      split at p2
      · rename_i kk hkk
        split at p2
        · rename_i c
          simp only [Bool.and_eq_true, decide_eq_true_eq] at c
          obtain ⟨v, hv1, b, e1, hb, xs, q1, hlen, rx1⟩ := r2.own i _ hi hl
          rw [hv] at hv1
          cases hv1; cases e1
          have ey := keyD_rp hkk rk
          subst ey
          obtain ⟨ys, e2, e3, e4⟩ := dput_rp (k := kk) (d := d) hlen rx1 (noL_rp c.1 (g2.rp ry))
          refine ⟨a, _, rfl, DPut.k q1 ?_, ?_⟩
          · have : (ks.zip xs).length ≤ ks.length := by simp; omega
            exact Nat.lt_of_le_of_lt this (Nat.lt_of_lt_of_le c.2 (line_le (Nat.le_refl _)))
          · rw [e2]
            have rs := RelS.ownSet (d' := .dic (dputK ks kk) (dputV ks ds kk d)) (u := .dK ((dputK ks kk).zip ys)) r2 hi hl hv ha q1 trivial ⟨a, rfl, ha, _, upd_same, e3, e4.hidden (by simp [ha]) q1 trivial⟩
            exact p2 _ φ2 ψ _ (.mut ha q1 trivial) rs
        · exact p2.elim
      · exact p2.elim
    · exact p.elim
  · exact p.elim
end
end FP
/-! Core6: loops, targets, cells. -/
namespace FP
open PySem PySem.Spec L2
open PyProof.Rows hiding St

/-! ### what a for walks at a statement -/
def rdIS (K : PySem.W.Frag) (mg : Str → Option Value) (W : WX) (ω : List Nat) (m : MI) : TI := fun σ H R => ∃ φ χ ψ0 ψ μ η, RelS K mg ω φ χ ψ0 ψ μ η σ H ∧ (match m η μ with
  | .ok ds μ' => ∀ J φ' H', Go φ H φ' H' → MemOk K mg φ' (χ ++ (ψ0 ++ ψ)) μ' H' → ItB K φ' χ ψ H' J ds → R J H'
  | .exc x μ' => ∀ cls a φ' H', Go φ H φ' H' → MemOk K mg φ' (χ ++ (ψ0 ++ ψ)) μ' H' → XOk K mg φ' χ H' x cls a → W cls a σ H'
  | .stuck => False)
abbrev IS (X : Cx) (W : WX) (ω : List Nat) (tg it : Expr) (m : MI) : Prop := PI X tg it (rdIS X.K X.mg W ω m)
section
variable {X : Cx} {W : WX} {ω : List Nat} {tg it : Expr} {m : MI}
theorem is_of (h : II X W tg it m) : IS X W [] tg it m := h.imp fun σ H R q => by
  obtain ⟨φ, χ, ψ0, ψ, μ, η, r, p⟩ := q
  have e : ψ = [] := r.emp rfl
  refine ⟨φ, χ, ψ0 ++ ψ, μ, η, r.rel, ?_⟩
  cases hm : m η μ with
  | ok ds μ1 => rw [hm] at p; exact fun J φ' H' g m' b => p J φ' H' g m' (by rw [e]; exact b)
  | exc x μ1 => rw [hm] at p; exact p
  | stuck => rw [hm] at p; exact p
theorem is_ofN (h : IN X W tg it m) : IS X W ω tg it m := h.imp fun σ H R q => by
  obtain ⟨φ, χ, ψ0, ψ, μ, η, r, p⟩ := q
  refine ⟨φ, χ, ψ0 ++ ψ, μ, η, r.rel, ?_⟩
  cases hm : m η μ with
  | ok ds μ1 => rw [hm] at p; exact fun J φ' H' g m' b => p J φ' H' g m' (.of b)
  | exc x μ1 => rw [hm] at p; exact p
  | stuck => rw [hm] at p; exact p
/-- what a call leaves: a new list, or things that nobody changes -/
def iOfL (m : MV) : MI := fun η μ => (m η μ).bind fun d μ1 => match itemsD d with
  | some l => .ok l μ1
  | none => .stuck
theorem is_ofF {m : MV} (h : EF X W it m) : IS X W ω tg it (iOfL m) := (((pi_list (tg := tg) h).or (pi_tup h)).or (pi_str h)).imp fun σ H R q => by
  obtain ⟨φ, χ, ψ0, ψ, μ, η, r, p⟩ := q
  cases hm : m η μ with
  | exc x μ1 => unfold iOfL at p; rw [hm] at p; exact .inl (.inl ⟨φ, χ, ψ0 ++ ψ, μ, η, r.rel, by rw [hm]; exact p⟩)
  | stuck => unfold iOfL at p; rw [hm] at p; exact p.elim
  | ok d μ1 =>
    unfold iOfL at p
    rw [hm] at p
    simp only [FP.R.bind_ok] at p
    cases d with
    | lst l =>
      refine .inl (.inl ⟨φ, χ, ψ0 ++ ψ, μ, η, r.rel, ?_⟩)
      rw [hm]
      rintro v φ' N H' g m' hN ⟨a, xs, rfl, n, q, rx⟩ hi
      have hn : H a = none := hN a (hi a rfl)
      have off := Gr.off r.mem hn
      simp only [List.mem_append, not_or] at off
      exact ⟨a, rfl, ⟨xs, .of q⟩, p _ _ _ g m'.lessN (.lst n.1 n.2 off.2.2 q rx)⟩
    | fro l =>
      refine .inl (.inl ⟨φ, χ, ψ0 ++ ψ, μ, η, r.rel, ?_⟩)
      rw [hm]
      rintro v φ' N H' g m' hN ⟨a, xs, rfl, q, rx⟩ hi
      exact ⟨a, rfl, ⟨xs, q.seq⟩, p _ _ _ g m'.lessN (.of (.fro q rx))⟩
    | tup l =>
      refine .inl (.inr ⟨φ, χ, ψ0 ++ ψ, μ, η, r.rel, ?_⟩)
      rw [hm]
      rintro v φ' N H' g m' hN ⟨a, xs, rfl, q, rx⟩ hi
      exact ⟨a, rfl, ⟨xs, q⟩, p _ _ _ g m'.lessN (.of (.tup q rx))⟩
    | ptu l =>
      refine .inl (.inr ⟨φ, χ, ψ0 ++ ψ, μ, η, r.rel, ?_⟩)
      rw [hm]
      rintro v φ' N H' g m' hN ⟨a, xs, rfl, ⟨o, q, _⟩, rx⟩ hi
      have q : SqT X.K H' a xs := .inl (.inr ⟨o, q⟩)
      exact ⟨a, rfl, ⟨xs, q⟩, p _ _ _ g m'.lessN (.of (.tup q rx))⟩
    | str z =>
      refine .inr ⟨φ, χ, ψ0 ++ ψ, μ, η, r.rel, ?_⟩
      rw [hm]
      rintro v φ' N H' g m' hN rfl hi
      exact ⟨z, rfl, p _ _ _ g m'.lessN (.of (.str z))⟩
    | _ => exact p.elim
end

/-! ### targets at a statement -/
section
variable {K : PySem.W.Frag} {mg : Str → Option Value} {ω : List Nat} {φ χ ψ0 ψ : List Addr} {μ : Mem} {H : Hp}
theorem RelS.setL : ∀ {is : List Nat} {ds : List D} {xs : List V} {η : Env'} {σ : L2.St}, RelS K mg ω φ χ ψ0 ψ μ η σ H → (∀ i ∈ is, i ∉ ω) → RpL K φ (χ ++ ψ) H ds xs → RelS K mg ω φ χ ψ0 ψ μ (FP.setL η is ds) (FP.setL σ is xs) H
  | [], _, _, _, _, r, _, _ => r
  | _ :: _, [], _, _, _, r, _, h => by cases h; exact r
  | i :: is, d :: ds, _, η, σ, r, n, h => by
    obtain ⟨x, q, rfl, h1, h2⟩ := h
    exact RelS.setL (is := is) (r.set (n i List.mem_cons_self) h1) (fun j hj => n j (List.mem_cons_of_mem _ hj)) h2
theorem gOf_runS {t : Tg} {d : D} {x : V} {η η1 : Env'} {σ : L2.St} {Q : L2.St → Hp → Prop} (hb : bindT t d η = some η1) (r : RelS K mg ω φ χ ψ0 ψ μ η σ H) (h : Rp K φ (χ ++ ψ) H d x) (hn : ∀ i ∈ tgIn t, i ∉ ω)
    (q : ∀ σ1, RelS K mg ω φ χ ψ0 ψ μ η1 σ1 H → Q σ1 H) : gOf K t x σ H Q := by
  cases t with
  | nm i =>
    cases hb
    exact q _ (r.set (hn i (by simp [tgIn])) h)
  | tp is =>
    unfold bindT at hb
    cases d with
    | tup ds =>
      simp only at hb
      split at hb
      · rename_i hl
        cases hb
        obtain ⟨a, xs, rfl, hq, rx⟩ := h
        exact ⟨a, xs, rfl, hq, by rw [rx.length]; exact hl, gAll_run (by rw [rx.length]; exact hl) (q _ (r.setL hn rx))⟩
      · cases hb
    | _ => cases hb
end
/-- targets = e -/
def tgOk (ω : List Nat) (t : Tg) : Bool := (tgIn t).all fun i => !ω.contains i
theorem tgOk_of {ω : List Nat} {t : Tg} (h : tgOk ω t = true) : ∀ i ∈ tgIn t, i ∉ ω := fun i hi z => by
  have := List.all_eq_true.mp h i hi
  simp [z] at this
def sAsg (ω : List Nat) (t : Tg) (m : MV) : MS := fun η μ => liftR (m η μ) η fun d μ1 => if (tgOk ω t && (ω.isEmpty || noL d)) = true then match bindT t d η with
  | some η1 => .nx η1 μ1
  | none => .stuck else .stuck
section
variable {X : Cx} {W : WX} {ω : List Nat} {tg e it : Expr} {t : Tg} {mv : MV} {pos : Pos} {body : List Stmt} {mb : MS} {mi : MI}
theorem ss_asg (he : EE X W e mv) (hg : PG X tg (gOf X.K t)) (hs : swapsWithSole [tg] e pos.line X.env = pure false := by rfl) (hw : swappedStores [tg] e X.env = pure none := by rfl)
    (h1 : (assignEach [tg] X.env).map (·.2) = [assign tg X.env] := by rfl) : SS X W ω (.Assign [tg] e pos) (sAsg ω t mv) := (ps_asg he hg hs hw h1).imp fun D σ H q => by
  obtain ⟨φ, χ, ψ0, ψ, μ, η, r, p⟩ := q
  refine rdS_bind r p fun φ1 H1 μ1 d v g1 r1 rv p1 => ?_
  split at p1
  · rename_i c
    simp only [Bool.and_eq_true] at c
    split at p1
    · rename_i η1 hb
      exact gOf_runS hb r1 (r1.sealed c.2 rv) (tgOk_of c.1) fun σ1 r2 => p1 σ1 φ1 ψ H1 .refl r2
    · exact p1.elim
  · exact p1.elim
/-! ### for -/
def forLoop (g : Tg) (body : MS) : List D → MS
  | [], η, μ => .nx η μ
  | d :: ds, η, μ => match bindT g d η with
    | none => .stuck
    | some η1 => match body η1 μ with
      | .nx η2 μ2 => forLoop g body ds η2 μ2
      | .ct η2 μ2 => forLoop g body ds η2 μ2
      | .bk η2 μ2 => .nx η2 μ2
      | r => r
def sFor (ω : List Nat) (g : Tg) (mi : MI) (body : MS) : MS := fun η μ => liftR (mi η μ) η fun ds μ1 => if (tgOk ω g && (ω.isEmpty || noLs ds)) = true then forLoop g body ds η μ1 else .stuck
theorem ss_for (g : Tg) (hi : IS X W ω tg it mi) (hg : PG X tg (gOf X.K g)) (hb : SSs X W ω body mb) (hp : PassesOwn (model X.prog X.w) X.A X.env X.xe) (hc : X.calm = true)
    (hs : ∀ x, foldedSetIterable it X.env x = pure x := by intro _; rfl) : SS X W ω (.For tg it body [] pos) (sFor ω g mi mb) := (ps_for hp hc hi hg hb hs).imp fun D σ H q => by
  obtain ⟨φ, χ, ψ0, ψ, μ, η, r, p⟩ := q
  refine ⟨φ, χ, ψ0, ψ, μ, η, r, ?_⟩
  unfold sFor at p
  cases hm : mi η μ with
  | stuck => rw [hm] at p; exact p
  | exc x μ1 => rw [hm] at p; exact fun c a φ1 H1 g1 m1 rx => p c a σ φ1 ψ H1 g1.s (r.go g1 m1) rx
  | ok ds μ1 =>
    rw [hm] at p
    simp only [liftR_ok] at p
    split at p
    case isFalse => exact p.elim
    rename_i c
    simp only [Bool.and_eq_true] at c
    intro J φ1 H1 g1 m1 hJ
    have r1 := r.go g1 m1
    have p1 := PostS.go p g1.s
    refine ⟨fun i m σ' H' => m = ds.length - i ∧ i ≤ ds.length ∧ ∃ φ' ψ' μ' η', GoS φ1 ψ H1 φ' ψ' H' ∧ RelS X.K X.mg ω φ' χ ψ0 ψ' μ' η' σ' H' ∧ PostS X.K X.mg W ω φ' χ ψ0 ψ' H' (forLoop g mb (ds.drop i) η' μ') D, ⟨ds.length, by simp, Nat.zero_le _, φ1, ψ, μ1, η, .refl, r1, p1⟩, ?_⟩
    rintro i m σ' H' ⟨rfl, hi, φ', ψ', μ', η', g', r', p'⟩
    obtain ⟨j1, j2, j3⟩ := hJ.go_stop g'.gr fun a n1 _ n3 z => by
      rcases List.mem_append.mp z with z | z
      · exact n1 z
      · exact n3 z
    by_cases hlt : i < ds.length
    · refine .inr ⟨j1 i hlt, fun σ2 H2 => ∃ φ2 ψ2 μ2 η2, GoS φ1 ψ H1 φ2 ψ2 H2 ∧ RelS X.K X.mg ω φ2 χ ψ0 ψ2 μ2 η2 σ2 H2 ∧ PostS X.K X.mg W ω φ2 χ ψ0 ψ2 H2 (forLoop g mb (ds.drop (i + 1)) η2 μ2) D, fun σ2 H2 h2 => ⟨ds.length - (i + 1), by omega, rfl, hlt, h2⟩, fun x H'' y => ?_⟩
      obtain ⟨d, hd, rfl, hx⟩ := j3 i x H'' hlt y
      have tr : ∀ {es : List FP.D} {xs : List V}, noLs es = true ∨ ω = [] → RpL X.K φ1 χ H1 es xs → RpL X.K φ' (χ ++ ψ') H'' es xs := fun {es xs} hn rx => by
        have rx2 : RpL X.K φ1 (χ ++ ψ) H1 es xs := by
          rcases hn with hn | hn
          · exact noLs_rp hn rx
          · rw [r.emp hn, List.append_nil]; exact rx
        refine rx2.mono g'.gr (fun a n1 n2 z => ?_) (fun a z => ?_) fun _ _ => g'.ext.at
        · rcases List.mem_append.mp z with z | z
          · exact n1 z
          · exact n2 (List.mem_append_right _ z)
        · simp only [List.mem_append] at z ⊢
          rcases z with z | z | z
          · exact (g'.pφ a z).imp_left .inl
          · exact .inl (.inr (.inl z))
          · exact (g'.pψ a z).imp_left fun w => .inr (.inr w)
      have rx : Rp X.K φ' (χ ++ ψ') H'' d x := by
        by_cases hω : ω = []
        · exact hx φ' (χ ++ ψ') fun h => tr (.inr hω) h
        · have hn : noLs ds = true := by
            rcases Bool.or_eq_true _ _ ▸ c.2 with c | c
            · exact absurd (List.isEmpty_iff.mp c) hω
            · exact c
          exact hx φ' (χ ++ ψ') fun h => tr (.inl hn) h
      rw [drop_cons hd] at p'
      unfold forLoop at p'
      cases hbt : bindT g d η' with
      | none => rw [hbt] at p'; exact p'.elim
      | some η1 =>
        rw [hbt] at p'
        simp only at p'
        refine gOf_runS hbt r' rx (tgOk_of c.1) fun σ1 r2 => ⟨φ', χ, ψ0, ψ', μ', η1, r2, ?_⟩
        cases hbody : mb η1 μ' with
        | nx η2 μ2 => rw [hbody] at p'; exact fun σ3 φ3 ψ3 H3 g3 r3 => ⟨φ3, ψ3, μ2, η2, g'.trans g3, r3, PostS.go p' g3⟩
        | ct η2 μ2 => rw [hbody] at p'; exact fun σ3 φ3 ψ3 H3 g3 r3 => ⟨φ3, ψ3, μ2, η2, g'.trans g3, r3, PostS.go p' g3⟩
        | bk η2 μ2 => rw [hbody] at p'; exact p'
        | rt d2 μ2 => rw [hbody] at p'; exact p'
        | exc x2 η2 μ2 => rw [hbody] at p'; exact p'
        | stuck => rw [hbody] at p'; exact p'
    · have e1 : i = ds.length := by omega
      subst e1
      refine .inl ⟨j2, ?_⟩
      rw [List.drop_length] at p'
      exact p' σ' φ' ψ' H' .refl r'
/-! ### while -/
def whileLoop (c : MB) (body : MS) : Nat → MS
  | 0, _, _ => .stuck
  | n + 1, η, μ => liftR (c η μ) η fun b μ1 => if b = true then match body η μ1 with
      | .nx η2 μ2 => whileLoop c body n η2 μ2
      | .ct η2 μ2 => whileLoop c body n η2 μ2
      | .bk η2 μ2 => .nx η2 μ2
      | r => r
    else .nx η μ1
theorem ss_while {c : Expr} {tc : MB} (n : Nat) (hc : TT' X W c tc) (hb : SSs X W ω body mb) (hp : PassesOwn (model X.prog X.w) X.A X.env X.xe) : SS X W ω (.While c body [] pos) (whileLoop tc mb n) := (ps_while hp hc hb).imp fun D σ H q => by
  refine ⟨fun m σ H => rdS X.K X.mg W ω (whileLoop tc mb m) D σ H, ⟨n, q⟩, fun m σ' H' q' => ?_⟩
  obtain ⟨φ, χ, ψ0, ψ, μ, η, r, p⟩ := q'
  cases m with
  | zero => exact p.elim
  | succ m =>
    unfold whileLoop at p
    refine rdS_bind r p fun φ1 H1 μ1 b b' g1 r1 rb p1 => ?_
    cases rb
    cases b with
    | false => exact p1 σ' φ1 ψ H1 .refl r1
    | true =>
      rw [if_pos rfl] at p1 ⊢
      refine ⟨fun σ2 H2 => rdS X.K X.mg W ω (whileLoop tc mb m) D σ2 H2, fun σ2 H2 h => ⟨m, Nat.lt_succ_self m, h⟩, φ1, χ, ψ0, ψ, μ1, η, r1, ?_⟩
      cases hbody : mb η μ1 with
      | nx η2 μ2 => rw [hbody] at p1; exact fun σ3 φ3 ψ3 H3 g3 r3 => ⟨φ3, χ, ψ0, ψ3, μ2, η2, r3, PostS.go p1 g3⟩
      | ct η2 μ2 => rw [hbody] at p1; exact fun σ3 φ3 ψ3 H3 g3 r3 => ⟨φ3, χ, ψ0, ψ3, μ2, η2, r3, PostS.go p1 g3⟩
      | bk η2 μ2 => rw [hbody] at p1; exact p1
      | rt d2 μ2 => rw [hbody] at p1; exact p1
      | exc x2 η2 μ2 => rw [hbody] at p1; exact p1
      | stuck => rw [hbody] at p1; exact p1
/-! ### x op= e -/
def sAug (ω : List Nat) (i : Nat) (f : FP.D → FP.D → Mem → R FP.D) (m : MV) : MS := fun η μ => match η[i]? with
  | some (some d0) => liftR (m η μ) η fun d μ1 => liftR (f d0 d μ1) η fun z μ2 => if (!ω.contains i && (ω.isEmpty || noL z)) = true then .nx (η.set i (some z)) μ2 else .stuck
  | _ => .stuck
theorem ss_aug {op : Operator} {f : FP.D → FP.D → Mem → R FP.D} {ti : TIp} {i : Nat} {x : Str} {pos' : Pos} (hN : X.N.Nodup) (hi : X.N[i]? = some x) (hx : Loc X.env.scope x) (ho : PIp X op ti) (hf : OpS X.K X.mg f ti) (he : EE X W e mv) (hf2 : X.fn x = true ∨ X.env.scope.names.lookup x = some .local := by first | exact .inl rfl | exact .inr rfl | assumption) :
    SS X W ω (.AugAssign (.Name x pos') op e pos) (sAug ω i f mv) := (ps_aug hN hi hx he ho hf2).imp fun D σ H q => by
  obtain ⟨φ, χ, ψ0, ψ, μ, η, r, p⟩ := q
  unfold sAug at p
  split at p
  · rename_i d0 hd0
    obtain ⟨v0, hv0, _⟩ := r.rel.ats i d0 hd0
    refine ⟨v0, hv0, ?_⟩
    refine rdS_bind r p fun φ1 H1 μ1 d y g1 r1 ry p1 => ?_
    obtain ⟨v1, hv1, rv0⟩ := r1.rel.ats i d0 hd0
    rw [hv0] at hv1; cases hv1
    refine hf W φ1 χ (ψ0 ++ ψ) μ1 σ H1 d0 d v0 y _ r1.mem rv0 ry ?_
    cases hz : f d0 d μ1 with
    | stuck => rw [hz] at p1; exact p1
    | exc x2 μ2 => rw [hz] at p1; exact fun c a φ2 H2 g2 m2 rx => p1 c a σ φ2 ψ H2 g2.s (r1.go g2 m2) rx
    | ok z μ2 =>
      rw [hz] at p1
      simp only [liftR_ok] at p1
      split at p1
      · rename_i c
        simp only [Bool.and_eq_true, Bool.not_eq_true'] at c
        intro v φ2 H2 g2 m2 rz
        have r2 := r1.go g2 m2
        have hi' : i ∉ ω := fun z => by have := c.1; simp [z] at this
        exact p1 _ φ2 ψ H2 g2.s (r2.set hi' (r2.sealed c.2 rz))
      · exact p1.elim
  · exact p.elim
end
/-! ### sealed values: no list that may change elsewhere -/
section
variable {X : Cx} {W : WX} {e : Expr} {es : List Expr} {m : MV} {ms : ML}
def mChk (p : FP.D → Bool) (m : MV) : MV := fun η μ => (m η μ).bind fun d μ1 => if p d = true then .ok d μ1 else .stuck
theorem es_of (h : EE X W e m) : ES X W e (mChk noL m) := h.imp fun σ H Q q => by
  obtain ⟨φ, χ, ψ, μ, η, rl, p⟩ := q
  refine rd_bind rl p fun φ1 H1 μ1 d x g1 r1 rx p1 => ?_
  obtain ⟨c, p1⟩ := p1.ite
  exact p1 _ _ _ .refl r1.mem (noL_rp c rx)
theorem es_ofF (h : EF X W e m) : ES X W e (mChk retOk m) := h.imp fun σ H Q q => by
  obtain ⟨φ, χ, ψ, μ, η, rl, p⟩ := q
  refine ⟨φ, χ, ψ, μ, η, rl, ?_⟩
  unfold mChk at p
  cases hm : m η μ with
  | exc x μ1 => rw [hm] at p; exact p
  | stuck => rw [hm] at p; exact p.elim
  | ok d μ1 =>
    rw [hm] at p
    simp only [FP.R.bind_ok] at p
    obtain ⟨c, p⟩ := p.ite
    intro v φ' N H' g m' hN rp hi
    refine p v φ' H' g m'.lessN (retOk_rp c rp fun l a e1 e2 => ?_)
    subst e1
    exact Gr.off rl.mem (hN a (hi a e2))
abbrev rLS (K : PySem.W.Frag) : List Addr → List Addr → List Addr → Hp → List FP.D → List V → Prop := fun φ χ ψ H d v => RpL K φ (χ ++ ψ) H d v
abbrev AS (X : Cx) (W : WX) (es : List Expr) (m : ML) : Prop := PA X es (rd X.K X.mg W (rLS X.K) m)
theorem as_nil : AS X W [] aNil := pa_nil.imp fun σ H Q q => by
  obtain ⟨φ, χ, ψ, μ, η, r, p⟩ := q
  exact p [] φ H .refl r.mem rfl
theorem as_cons (h : ES X W e m) (hr : AS X W es ms) (hs : starEach (e :: es) X.env = (false, eval e X.env) :: starEach es X.env := by rfl) : AS X W (e :: es) (aCons m ms) :=
  (pa_cons h hr hs).imp fun σ H Q q => by
    obtain ⟨φ, χ, ψ, μ, η, r, p⟩ := q
    refine rd_bind r p fun φ1 H1 μ1 d x g1 r1 rx p1 => ?_
    refine rd_bind r1 p1 fun φ2 H2 μ2 ds xs g2 r2 rxs p2 => ?_
    exact p2 (x :: xs) φ2 H2 .refl r2.mem (.cons (g2.rp rx) rxs)
end
/-! ### cells: a list that changes under several names -/
section
variable {X : Cx} {W : WX} {ω : List Nat} {e k : Expr} {es : List Expr} {m mk : MV} {ms : ML} {pos pos' : Pos} {i : Nat} {x : Str}
/-- x = [..], a new cell -/
def sCell (i : Nat) (ms : ML) : MS := fun η μ => liftR (ms η μ) η fun ds μ1 => if decide (ds.length ≤ 10000000) = true then .nx (η.set i (some (.ptr μ1.length))) (μ1 ++ [.lst ds]) else .stuck
theorem ss_cell {lpos : Pos} (hN : X.N.Nodup) (hi : X.N[i]? = some x) (hx : Loc X.env.scope x) (h : AS X W es ms) (ho : i ∉ ω := by decide) (hs : swapsWith (.List es lpos) (some (.Name x pos')) pos.line X.env = pure false := by rfl) (hf : X.fn x = true ∨ X.env.scope.names.lookup x = some .local := by first | exact .inl rfl | exact .inr rfl | assumption) :
    SS X W ω (.Assign [.Name x pos'] (.List es lpos) pos) (sCell i ms) := (ps_set hN hi hx (pe_lst h) hs hf).imp fun D σ H q => by
  obtain ⟨φ, χ, ψ0, ψ, μ, η, r, p⟩ := q
  refine rdS_bind r p fun φ1 H1 μ1 ds xs g1 r1 rx p1 => ?_
  split at p1
  · rename_i c
    refine ⟨line_le (by rw [rx.length]; exact of_decide_eq_true c), fun a ha => ?_⟩
    have g : Go φ1 H1 (φ1 ++ [a]) (upd H1 a (.lst xs)) := ⟨.newC ha, .new⟩
    have mem := r1.mem.push (c := .lst ds) (u := .lst xs) ha ⟨xs, upd_same, g.rpL rx⟩
    have r2 : RelS X.K X.mg ω (φ1 ++ [a]) χ ψ0 ψ (μ1 ++ [.lst ds]) η σ (upd H1 a (.lst xs)) := r1.go g mem
    refine p1 _ (φ1 ++ [a]) ψ _ g.s (r2.set ho ⟨a, ?_, rfl⟩)
    rw [← r1.mem.len]; simp
  · exact p1.elim
def setAt (l : List FP.D) (j : Int) (d : FP.D) : Option (List FP.D) := (ixN l.length j).map fun n => l.set n d
/-- x[k] = e, x a name of a cell -/
def sCellSet (i : Nat) (mk m : MV) : MS := fun η μ => liftR (m η μ) η fun d μ1 => match η[i]? with
  | some (some (.ptr c)) => liftR (mk η μ1) η fun kd μ2 => match kd with
    | .int j => match μ2[c]? with
      | some (.lst l) => match (if noL d = true then setAt l j d else none) with
        | some l' => .nx η (μ2.set c (.lst l'))
        | none => .stuck
      | _ => .stuck
    | _ => .stuck
  | _ => .stuck
theorem RelS.cellSet {K : PySem.W.Frag} {mg : Str → Option Value} {φ χ ψ0 ψ : List Addr} {μ : Mem} {η : Env'} {σ : L2.St} {H : Hp} {c : Nat} {a : Addr} {cl : Cell} {o u : HO} (r : RelS K mg ω φ χ ψ0 ψ μ η σ H) (ha : φ[c]? = some a) (ho : H a = some o) (hm : Mut (some o))
    (h : CellOk K mg φ (χ ++ (ψ0 ++ ψ)) (upd H a u) cl a) : RelS K mg ω φ χ ψ0 ψ (μ.set c cl) η σ (upd H a u) := by
  have g : Go φ H φ (upd H a u) := ⟨.mut (List.mem_of_getElem? ha) ho hm, .refl⟩
  exact r.go g (r.mem.set ha ho hm h)
theorem ss_cellSet {spos : Pos} (hv : PE X (.Name x pos') (tVar i)) (hk : EE X W k mk) (h : EE X W e m)
    (hs : swapsWithSole [.Subscript (.Name x pos') k spos] e pos.line X.env = pure false := by rfl) (hw : swappedStores [.Subscript (.Name x pos') k spos] e X.env = pure none := by rfl)
    (h1 : (assignEach [.Subscript (.Name x pos') k spos] X.env).map (·.2) = [assign (.Subscript (.Name x pos') k spos) X.env] := by rfl)
    (ha : ∀ v, assign (.Subscript (.Name x pos') k spos) X.env v = (do
      let ov ← holding [v] (eval (.Name x pos') X.env)
      let iv ← holding [v, ov] (eval k X.env)
      standAt spos
      holding [v, ov, iv] (setItem ov iv v)
      release [v, ov, iv] []) := by intro _; rfl) :
    SS X W ω (.Assign [.Subscript (.Name x pos') k spos] e pos) (sCellSet i mk m) := (ps_asg h (pg_sub hv hk set_list ha) hs hw h1).imp fun D σ H q => by
  obtain ⟨φ, χ, ψ0, ψ, μ, η, r, p⟩ := q
  refine rdS_bind r p fun φ1 H1 μ1 d y g1 r1 ry p1 => ?_
  split at p1
  · rename_i c hc
    obtain ⟨v, hv, a, ha, rfl⟩ := r1.rel.ats i _ hc
    refine ⟨_, hv, ?_⟩
    refine rdS_bind r1 p1 fun φ2 H2 μ2 kd ky g2 r2 rk p2 => ?_
    split at p2
    · rename_i j
      cases rk
      split at p2
      · rename_i l hl
        split at p2
        · rename_i l' hl'
          have ha2 : φ2[c]? = some a := g2.ext.at ha
          obtain ⟨xs, hxs, rx⟩ := r2.mem.ats c _ a hl ha2
          by_cases cn : noL d = true
          · rw [if_pos cn] at hl'
            unfold setAt at hl'
            cases hn : ixN l.length j with
            | none => rw [hn] at hl'; cases hl'
            | some n =>
              rw [hn] at hl'
              cases hl'
              refine ⟨a, xs, j, n, rfl, rfl, hxs, by rw [rx.length]; exact hn, ?_⟩
              have gm : Go φ2 H2 φ2 (upd H2 a (.lst (xs.set n y))) := ⟨.mut (List.mem_of_getElem? ha2) hxs trivial, .refl⟩
              have rs := RelS.cellSet (cl := .lst (l.set n d)) (u := .lst (xs.set n y)) r2 ha2 hxs trivial ⟨_, upd_same, gm.rpL (rx.set n (noL_rp cn (g2.rp ry)))⟩
              exact p2 σ φ2 ψ _ gm.s rs
          · rw [if_neg cn] at hl'; cases hl'
        · exact p2.elim
      · exact p2.elim
    · exact p2.elim
  · exact p1.elim
end
end FP
/-! Core7: defs and their calls. -/
namespace FP
open PySem PySem.Spec L2
open PyProof.Rows hiding St

abbrev FN := List D → Mem → R D
/-- what a def promises: it does what F says, for n arguments -/
def spF (K : PySem.W.Frag) (mg : Str → Option Value) (n : Nat) (F : FN) : Sp := fun vs H Q E => vs.length = n ∧ ∃ φ χ ψ μ ds, MemOk K mg φ (χ ++ ψ) μ H ∧ RpL K φ χ H ds vs ∧ PostF K mg (fun cls a _ H' => E cls a H') [] φ χ ψ H (F ds μ) Q
def startD (n : Nat) (ds : List D) : Env' := ds.map some ++ List.replicate (n - ds.length) none
def runF (n : Nat) (B : MS) : FN := fun ds μ => match B (startD n ds) μ with
  | .nx _ μ' => .ok .non μ'
  | .rt d μ' => .ok d μ'
  | .exc x _ μ' => .exc x μ'
  | _ => .stuck
section
variable {P : Program} {w : World} {K : PySem.W.Frag} {mg : Str → Option Value} {base : Heap}
theorem startD_get {n : Nat} {ds : List D} {i : Nat} {d : D} (h : (startD n ds)[i]? = some (some d)) : ds[i]? = some d := by
  unfold startD at h
  by_cases hi : i < ds.length
  · rw [List.getElem?_append_left (by simpa using hi), List.getElem?_map] at h
    cases e : ds[i]? with
    | none => rw [e] at h; cases h
    | some x => rw [e] at h; cases h; rfl
  · rw [List.getElem?_append_right (by simpa using hi), List.getElem?_replicate] at h
    split at h <;> cases h
theorem start_get {N : List Str} {vs : List V} {i : Nat} {v : V} (h : vs[i]? = some v) : (L2.start N vs)[i]? = some (some v) := by
  unfold L2.start
  have hi := (List.getElem?_eq_some_iff.mp h).1
  rw [List.getElem?_append_left (by simpa using hi), List.getElem?_map, h]
  rfl
theorem body_run {N ps : List Str} {sc : Scope} {ω : List Nat} {B : MS} {vs : List V} {H : Hp} {Q : VK} {E : XK} (S : FnScope N ps sc) (hω : ω.all (fun i => decide (ps.length ≤ i)) = true) (hsp : spF K mg ps.length (runF N.length B) vs H Q E) :
    rdS K mg (fun cls d _ H => E cls d H) ω B { nx := fun _ H' => Q .non H', rt := Q } (L2.start N vs) H := by
  obtain ⟨hlen, φ, χ, ψ, μ, ds, m, r, p⟩ := hsp
  have hdl : ds.length = ps.length := by rw [← r.length]; exact hlen
  have hle : ps.length ≤ N.length := by
    have := congrArg List.length S.pre
    rw [List.length_take] at this
    omega
  have rel : RelS K mg ω φ χ ψ [] μ (startD N.length ds) (L2.start N vs) H := by
    have noω : ∀ i d, i ∈ ω → (startD N.length ds)[i]? = some (some d) → False := fun i d hi e => by
      have h1 := startD_get e
      have h2 := (List.getElem?_eq_some_iff.mp h1).1
      have h3 := of_decide_eq_true (List.all_eq_true.mp hω i hi)
      omega
    refine ⟨by simpa using m, (fun a z => nomatch z), (fun _ => rfl), ?_, fun i d hi e => ?_, fun i d hi e => (noω i d hi e).elim, fun i j d e v hi hj hij e1 => (noω i d hi e1).elim⟩
    · unfold startD L2.start
      simp [r.length]
    · obtain ⟨v, hv, rv⟩ := r.get (startD_get e)
      exact ⟨v, start_get hv, by simpa using rv⟩
  refine ⟨φ, χ, ψ, [], μ, _, rel, ?_⟩
  unfold runF at p
  have toGo : ∀ {φ' ψ' : List Addr} {H' : Hp}, GoS φ [] H φ' ψ' H' → Go φ H φ' H' := fun {φ' ψ' H'} g =>
    ⟨g.gr.weak (fun a h => by simpa using h) fun a h => List.mem_append_left _ h, g.ext⟩
  cases hB : B (startD N.length ds) μ with
  | nx η' μ' =>
    rw [hB] at p
    intro σ' φ' ψ' H' g r'
    refine p .non φ' [] H' (toGo g) (r'.mem.less fun a z => ?_) (fun a z => nomatch z) rfl trivial
    simp only [List.mem_append, List.append_nil] at z ⊢
    rcases z with z | z <;> simp [z]
  | rt d μ' =>
    rw [hB] at p
    intro v φ' ψ' H' g m' rp hi
    exact p v φ' ψ' H' (toGo g) m' (fun a z => (g.pψ a z).elim (fun z => nomatch z) id) (rp.less fun a z => List.mem_append_left _ z) hi
  | exc x' η' μ' =>
    rw [hB] at p
    intro cls a σ' φ' ψ' H' g r' rx
    exact p cls a φ' H' (toGo g) (r'.mem.less fun a z => by
      simp only [List.mem_append] at z ⊢
      rcases z with z | z <;> simp [z]) rx
  | bk η' μ' => rw [hB] at p; exact p.elim
  | ct η' μ' => rw [hB] at p; exact p.elim
  | stuck => rw [hB] at p; exact p.elim
theorem okF {x qual : Str} {st : Stmt} {f : Addr} {fd : FuncData} {N ps : List Str} {k : Nat} {ω : List Nat} {B : MS} (F : Fun K x qual st f fd) (S : FnScope N ps (defScope st)) (hω : ω.all (fun i => decide (ps.length ≤ i)) = true)
    (hb : ∀ (cdv : Value) (A : Around) (outer : List Env) (s : Shared) (H : Hp) (E : XK), Room k (A.deeper (envOfC qual (defScope st) s.heap.objs.size f cdv)) →
      SSs (cxOf (L2.CX P w) P w K mg base N qual (defScope st) f cdv A outer s H E) (fun cls d _ H => E cls d H) ω (defBody st) B) : FnOk P w K mg base (L2.CX P w) (k + 1) f fd ps (spF K mg ps.length (runF N.length B)) := by
  refine F.okX S (fun vs H Q E h => h.1) fun cdv A outer s H vs Q E hr hsp => ⟨_, hb cdv A outer s H E hr, body_run S hω hsp⟩
/-- a def that cannot be called at all -/
theorem ok0 {f : Addr} {fd : FuncData} {ps : List Str} {k n : Nat} (F : FN) (hF : ∀ ds μ, F ds μ = .stuck) (hn : n = ps.length) : FnOk P w K mg base (L2.CX P w) k f fd ps (spF K mg n F) := by
  refine ⟨fun vs H Q E h => h.1.trans hn, fun A outer s H args us vs Q E _ _ _ _ h => ?_⟩
  obtain ⟨_, φ, χ, ψ, μ, ds, m, r, p⟩ := h
  rw [hF] at p
  exact p.elim
end
/-! ### calls -/
def mFn (F : FN) (n : Nat) (dds : List D) (ms : ML) : MV := fun η μ => (ms η μ).bind fun ds μ1 => if ds.length + dds.length = n then F (ds ++ dds) μ1 else .stuck
section
variable {X : Cx} {W : WX} {e : Expr} {es : List Expr} {ms : ML} {x : Str} {p pos : Pos} {k n : Nat} {f : Addr} {fd : FuncData} {ps : List Str} {F : FN} {dds : List D} {dvs : List V} {ds : List Value}
theorem ef_call (G : FnOk X.prog X.w X.K X.mg X.base (L2.CX X.prog X.w) k f fd ps (spF X.K X.mg n F)) (hr : Room k X.A) (hm : X.mg x = some (.ref f)) (hk : PySem.W.keepIn X.K (.ref f) = true) (hb : Binds X.K fd ps ds) (hd : Vals dvs ds) (tk : Takes X W)
    (ha : AA X W (e :: es) ms) (hdd : ∀ φ χ H, RpL X.K φ χ H dds dvs) (hg : Gl X x := by rfl) (hdb : (x == ("__debug__" : Str)) = false := by decide)
    (he : starEach (e :: es) X.env = (false, eval e X.env) :: starEach es X.env := by rfl) (hpl : (backTo pos (starEach es X.env)).any (·.1) = false := by rfl) : EF X W (.Call (.Name x p) (e :: es) [] pos) (mFn F n dds ms) :=
  (pe_callSD (E := WE W) G hr hg hm hk hb hd (fun σ => passAt tk σ) ha hdb he hpl).imp fun σ H Q q => by
    obtain ⟨φ, χ, ψ, μ, η, rl, p⟩ := q
    refine ⟨φ, χ, ψ, μ, η, rl, ?_⟩
    unfold mFn at p
    cases hms : ms η μ with
    | exc x' μ1 => rw [hms] at p; exact p
    | stuck => rw [hms] at p; exact p
    | ok as μ1 =>
      rw [hms] at p
      simp only [FP.R.bind_ok] at p
      split at p
      · rename_i hn
        intro xs φ1 H1 g1 m1 rx
        refine ⟨by rw [List.length_append, rx.length, (hdd φ χ H).length]; exact hn, φ1, χ, ψ, μ1, as ++ dds, m1, rx.append (hdd _ _ _), ?_⟩
        cases hF : F (as ++ dds) μ1 with
        | ok d μ2 =>
          rw [hF] at p
          exact fun v φ2 N H2 g2 m2 hN rp hi => p v φ2 N H2 (g1.trans g2) m2 (fun a z => none_back g1.gr (hN a z)) rp hi
        | exc x' μ2 =>
          rw [hF] at p
          exact fun c a φ2 H2 g2 m2 rx => p c a φ2 H2 (g1.trans g2) m2 rx
        | stuck => rw [hF] at p; exact p
      · exact p.elim
/-! ### new lists -/
theorem ef_lst {ms : ML} (h : AA X W es ms) : EF X W (.List es pos) (mLst ms) := (pe_lst h).imp fun σ H Q q => by
  obtain ⟨φ, χ, ψ, μ, η, rl, p⟩ := q
  refine ⟨φ, χ, ψ, μ, η, rl, ?_⟩
  unfold mLst at p
  cases hms : ms η μ with
  | exc x' μ1 => rw [hms] at p; exact p
  | stuck => rw [hms] at p; exact p
  | ok as μ1 =>
    rw [hms] at p
    simp only [FP.R.bind_ok] at p
    split at p
    · rename_i c
      intro xs φ1 H1 g1 m1 rx
      refine ⟨line_le (by rw [rx.length]; exact c), fun a ha => ?_⟩
      have g : Go φ1 H1 φ1 (upd H1 a (.lst xs)) := .new ha
      refine p _ φ1 [a] _ (g1.trans g) ((m1.hid ha).less fun b z => ?_) (fun b z => by simp at z; rw [z]; exact none_back g1.gr ha) ⟨a, xs, rfl, ⟨Gr.notin m1 ha, Gr.offχ m1 ha⟩, upd_same, g.rpL rx⟩ fun b e => by cases e; simp
      simp only [List.mem_append, List.mem_cons, List.not_mem_nil, or_false] at z ⊢
      rcases z with z | z | z <;> simp [z]
    · exact p.elim
end
end FP
/-! Core8: dicts, tuples of dicts, texts' methods, lists made anew. -/
namespace FP
open PySem PySem.Spec L2 PySem.W
open PyProof.Rows hiding St

/-! ### tuple(d) -/
section
variable {prog : Program} {w : World} {A : Around} {E : Value → Shared → Prop} {s : Shared} {T : String} {r d : Addr} {n : Nat} {P : Nat → Value → Prop} {OK : Heap → Prop}
theorem collect_src (K : KdlSrc prog w T r d n P OK) {Q : List Value → Shared → Prop} (hh : A.handled = none) (hok : OK s.heap) (hr : r < s.heap.objs.size) (hd : d < s.heap.objs.size) (hn : n ≤ sizeLine)
    (hQ : ∀ (h' : Heap) (tk : Nat) (acc : Array Value), (∀ b o, s.heap.get? b = some o → h'.get? b = some o) → ItemsOf P acc n → Q acc.toList { s with heap := h', toks := tk }) :
    wpAny (model prog w) A (collect (.ref r)) Q E s := by
  unfold collect
  refine wpAny_bind (wpAny_runValue (codeAny_builtin F.entry_proto_collect ?_))
  rw [Around.under_plainId F.plain_proto_collect _]
  show wpAny _ A.in1 (newList [] >>= fun l => again (.builtin "list.__iadd__" ⟨[l, .ref r], []⟩)) _ _ s
  refine wpAny_bind (wpAny_newObj_type ?_)
  refine wpAny_pure ⟨plainId_quiet F.plain_list_iadd _, codeAny_builtin F.entry_list_iadd ?_⟩
  rw [Around.under_plainId F.plain_list_iadd _]
  show wpAny _ A.in1 (Builtin.List.listExtendWith (.ref s.heap.objs.size) (.ref r) (.ref s.heap.objs.size)) _ _ _
  have hS : (s.heap.push { cls := .type "list", data := .seq ([] : List Value).toArray }).get? s.heap.objs.size = some { cls := .type "list", data := .seq #[] 0 } := Heap.get?_push_size _ rfl
  refine wpAny_mono (kdl_extend (A := A) (R := fun rr s' => rr = .ok (.ret (.ref s.heap.objs.size)) ∧ ∃ (h' : Heap) (tk : Nat) (acc : Array Value) (c' : Nat), s' = { s with heap := h', toks := tk } ∧
      (∀ b o, s.heap.get? b = some o → h'.get? b = some o) ∧ h'.get? s.heap.objs.size = some { cls := .type "list", dict := none, data := .seq acc c', slots := #[] } ∧ ItemsOf P acc n)
    (s := { s with heap := s.heap.push { cls := .type "list", data := .seq ([] : List Value).toArray } }) K hh (K.keep _ _ hok fun b _ o q => Heap.get?_push_of_some _ q) s.heap.objs.size (Nat.ne_of_gt hr) (Nat.ne_of_gt hd) _ 0 hS
    (fun h' tk acc c' hk e hi => ⟨rfl, h', tk, acc, c', rfl, fun b o q => hk b o (Nat.ne_of_lt (Heap.lt_size q)) (Heap.get?_push_of_some _ q), e, hi⟩) hn) (fun fin s' h => ?_) (fun e s' h => ?_)
  · cases fin with
    | done f =>
      obtain ⟨e, h', tk, acc, c', rfl, hk, hS', hi⟩ := h
      cases e
      show wpAny _ A (load s.heap.objs.size >>= _) _ _ _
      exact wpAny_bind (wpAny_load hS' (wpAny_pure (hQ h' tk acc hk hi)))
    | again c' =>
      refine ⟨h.1, codeAny_mono h.2 fun rr s'' hr' => ?_⟩
      obtain ⟨rfl, h', tk, acc, c', rfl, hk, hS', hi⟩ := hr'
      show wpAny _ A (load s.heap.objs.size >>= _) _ _ _
      exact wpAny_bind (wpAny_load hS' (wpAny_pure (hQ h' tk acc hk hi)))
  · exact absurd h.1 (by simp)
theorem code_tuple_new_src (K : KdlSrc prog w T r d n P OK) {Q₁ : Value → Shared → Prop} (hh : A.handled = none) (hok : OK s.heap) (hr : r < s.heap.objs.size) (hd : d < s.heap.objs.size) (hn : n ≤ sizeLine) (hT : (Value.type T == Value.type "tuple") = false)
    (h : ∀ (h' : Heap) (tk : Nat) (acc : Array Value), (∀ b o, s.heap.get? b = some o → h'.get? b = some o) → ItemsOf P acc n →
      Q₁ (.ref h'.objs.size) { s with heap := h'.push { cls := .type "tuple", data := .seq acc }, toks := tk }) :
    codeAny (model prog w) A (.call (.builtin "tuple.__new__") ⟨[.type "tuple", .ref r], []⟩) (wants Q₁ E) s := by
  refine codeAny_of_tree ?_
  show wpAny _ A.in1 (do checkBuiltinCall "tuple.__new__" ⟨[.type "tuple", .ref r], []⟩; again (.builtin "tuple.__new__" ⟨[.type "tuple", .ref r], []⟩)) _ _ s
  refine wpAny_bind (wpAny_of_eq (F.newCall_tuple_1 _) (wpAny_pure ⟨plainId_quiet F.plain_tuple_new _, codeAny_builtin F.entry_tuple_new ?_⟩))
  rw [Around.under_plainId F.plain_tuple_new _]
  have hsub := sub_tuple_self
  have hinit := init_tuple_lookup
  have hmh := madeHere_tuple
  have hTI : s.TypeIs (.ref r) T := K.type s hok
  have hh1 : A.in1.handled = none := hh
  have hT2 := K.notTuple
  wp_walk using wpAny_typeOf hTI, collect_src (A := A.in1) K hh1 hok hr hd hn
  intro h' tk acc hk hacc
  show wpAny _ _ (Builtin.Tuple.tupleExact acc.toList.toArray >>= fun v => ret v) _ _ _
  unfold Builtin.Tuple.tupleExact
  refine wpAny_bind (wpAny_newObj_type ?_ (by show acc.toList.toArray.size ≤ sizeLine; simp only [Array.toArray_toList]; rw [hacc.1]; exact hn))
  refine wpAny_pure ?_
  have e : acc.toList.toArray = acc := by simp
  rw [e]
  exact h h' tk acc hk hacc
theorem call_tuple_src (K : KdlSrc prog w T r d n P OK) {Q : Value → Shared → Prop} (hh : A.handled = none) (hok : OK s.heap) (hr : r < s.heap.objs.size) (hd : d < s.heap.objs.size) (hn : n ≤ sizeLine)
    (hQ : ∀ (h' : Heap) (tk : Nat) (acc : Array Value), (∀ b o, s.heap.get? b = some o → h'.get? b = some o) → ItemsOf P acc n →
      Q (.ref h'.objs.size) { s with heap := h'.push { cls := .type "tuple", data := .seq acc }, toks := tk }) :
    wpAny (model prog w) A (call (.type "tuple") [.ref r]) Q E s := by
  refine callType_codes (Q₁ := fun obj s₁ => s₁.TypeIs obj "tuple" ∧ Q obj s₁) F.called_tuple (F.typeCall_tuple_1 _) F.entry_object_init
    (code_tuple_new_src (A := A.in1) K hh hok hr hd hn K.notTuple fun h' tk acc hk hacc => ⟨⟨_, Heap.get?_push_size _ rfl, rfl⟩, hQ h' tk acc hk hacc⟩) fun obj s₁ h₁ => ?_
  exact ⟨h₁.1, F.args_object_init_2 obj _, object_init_meets F.called_tuple.init.lookup F.called_tuple.made (by decide) prog w A.in1 _ s₁ ⟨h₁.1, rfl, h₁.2⟩⟩
end
def rTupD : List V → Hp → VK → Prop := fun xs H Q => ∃ p kvs, xs = [V.ref p] ∧ H p = some (.dK kvs) ∧ ∀ q, H q = none → Q (.ref q) (upd H q (.tup (kvs.map fun kv => kV kv.1)))
theorem call_tuple_dK {X : Cx} (hc : X.calm = true) : CallR X (.type "tuple") rTupD := by
  intro pins s σ H xs us Q I r h
  obtain ⟨p, kvs, e, hk, q⟩ := h
  subst e
  obtain ⟨u, eu, rx⟩ := vals1 r
  subst eu
  obtain rfl : u = Value.ref p := rx
  obtain ⟨z, lo, vs, rk, hd⟩ := (show ObjOk X.prog X.w H s.heap p (.dK kvs) from I.hok p _ hk)
  obtain ⟨ep, hat⟩ := hd.dictAt
  have hl : kvs.length = vs.length := Paired.length rk
  have hp : p < s.heap.objs.size := I.hok.lt hk
  refine call_tuple_src (PySem.W.kdl_dict (knd := mixKind X.prog X.w) (kvs := vs) (ep := ep) lo) (I.ok.hd hc) hat hp hp (by rw [← hl]; exact z) fun h' tk acc' hkeep hacc => ?_
  have I1 : Inv X pins σ H { s with heap := h', toks := tk } := I.kept hkeep
  refine ⟨.ref h'.objs.size, upd H h'.objs.size (.tup (kvs.map fun kv => kV kv.1)), I1.laid (t' := tk) (fun c o e => Heap.get?_push_of_some _ e) (Nat.le_refl _) (show ObjOk X.prog X.w _ _ _ (.tup (kvs.map fun kv => kV kv.1)) from ⟨?_, acc'.toList, ?_, ?_⟩), rfl, q _ (I1.hok.fresh (Nat.le_refl _))⟩
  · rw [List.length_map]; exact z
  · have el : acc'.toList.length = acc'.size := by simp
    refine vals_of_at (by rw [List.length_map, el, hacc.1, hl]) fun j x w h1 h2 => ?_
    obtain ⟨k, y, hky, hi⟩ := hacc.2 j w (by rw [← Array.getElem?_toList]; exact h2)
    have e1 : (kvs.map (·.1))[j]? = some k := by
      rw [KV.keys rk, List.getElem?_map, hky] <;> rfl
    have e2 : (kvs.map fun kv => kV kv.1)[j]? = some (kV k) := by
      have e3 : (kvs.map fun kv => kV kv.1) = (kvs.map (·.1)).map kV := by rw [List.map_map] <;> rfl
      rw [e3, List.getElem?_map, e1] <;> rfl
    rw [e2] at h1
    cases h1
    exact keyIs_rel hi
  · rw [Array.toArray_toList]; exact IsTup.new _ _
/-! ### dict(t), t a plain tuple of pairs -/
theorem pick_us {T : Addr → Value → Key × Value → Prop} : ∀ (prs : List (Key × Value)) (ps : List Addr), (∀ (j : Nat) (q : Key × Value), prs[j]? = some q → ∃ (b : Addr) (u : Value), ps[j]? = some b ∧ T b u q) →
    ∃ us : List Value, us.length = prs.length ∧ ∀ (j : Nat) (q : Key × Value) (u : Value), prs[j]? = some q → us[j]? = some u → ∃ b, ps[j]? = some b ∧ T b u q
  | [], _, _ => ⟨[], rfl, fun j q u h => by simp at h⟩
  | q :: prs, ps, h => by
    obtain ⟨b, u, hb, t⟩ := h 0 q rfl
    cases ps with
    | nil => simp at hb
    | cons b' ps =>
      cases hb
      obtain ⟨us, hl, hu⟩ := pick_us prs ps fun j q' hq => by
        obtain ⟨b2, u2, h1, h2⟩ := h (j + 1) q' (by simpa using hq)
        exact ⟨b2, u2, by simpa using h1, h2⟩
      refine ⟨u :: us, by simp [hl], fun j q' u' h1 h2 => ?_⟩
      cases j with
      | zero => cases h1; cases h2; exact ⟨_, rfl, t⟩
      | succ j =>
        obtain ⟨b2, e1, e2⟩ := hu j q' u' (by simpa using h1) (by simpa using h2)
        exact ⟨b2, by simpa using e1, e2⟩
def rDictT (K : PySem.W.Frag) : List V → Hp → VK → Prop := fun xs H Q => ∃ (a : Addr) (o : Obj) (ps : List Addr) (kvs : List (Key × V)), xs = [V.ref a] ∧ H a = some (.frz o (.tup (ps.map V.ref))) ∧ o.dict = none ∧ Paired (fun p kv => SqT K H p [kV kv.1, kv.2]) ps kvs ∧
    ∀ p, H p = none → Q (.ref p) (upd H p (.dK (mergeK [] kvs)))
theorem call_dictT {X : Cx} (hcalm : X.calm = true) : CallR X (.type "dict") (rDictT X.K) := by
  intro pins s σ H xs us Q I r q
  obtain ⟨a, o, ps, kvs, ex, ha, hdn, hp, q⟩ := q
  subst ex
  obtain ⟨u, eu, rx⟩ := vals1 r
  subst eu
  cases rx
  obtain ⟨ho, hz, its, rv, o', ho', hc', n, hdat⟩ := (show ObjOk X.prog X.w H s.heap a (.frz o (.tup (ps.map V.ref))) from I.hok a _ ha)
  rw [ho] at ho'
  cases ho'
  have ei := refs_at rv
  subst ei
  rw [List.length_map] at hz
  obtain ⟨prs, rel, hl, hpr⟩ := pairs_of I hp
  obtain ⟨us, hul, hus⟩ := pick_us (T := fun b u q => IsTup s.heap b #[u, q.2] ∧ keyIs q.1 u = true) prs ps hpr
  let psV : List (Value × Value) := us.zip (prs.map (·.2))
  have hpl : psV.length = prs.length := by simp [psV, hul]
  have get : ∀ j k v, psV[j]? = some (k, v) → ∃ (q : Key × Value) (b : Addr), prs[j]? = some q ∧ q.2 = v ∧ ps[j]? = some b ∧ IsTup s.heap b #[k, v] ∧ keyIs q.1 k = true := fun j k v e => by
    obtain ⟨h1, h2⟩ := List.getElem?_zip_eq_some.mp e
    rw [List.getElem?_map] at h2
    cases hq : prs[j]? with
    | none => rw [hq] at h2; cases h2
    | some q =>
      rw [hq] at h2
      cases h2
      obtain ⟨b, hb, h3, h4⟩ := hus j q k hq h1
      exact ⟨q, b, hq, rfl, hb, h3, h4⟩
  refine PySem.call_dict_pairs (knd := mixKind X.prog X.w) (kvs := prs) (PairArg.tuple a (ps.map Value.ref).toArray (fun j => ps.getD j 0) psV) (I.ok.hd hcalm) ⟨⟨o, n, ho, hc', hdn, hdat⟩, by simp [hpl, hl], fun j k v e => ?_⟩ ⟨hpl.symm, fun i key v e => ?_⟩ (by rw [hpl, hl]; exact hz) fun h' tk hd' k => ?_
  · obtain ⟨q', b, h1, h2, h3, h4, h5⟩ := get j k v e
    have eb : ps.getD j 0 = b := by simp [List.getD, h3]
    refine ⟨by simp [h3], ?_⟩
    show PairAt s.heap (ps.getD j 0) k v
    rw [eb]
    exact .inl h4
  · obtain ⟨q', b, h1, h2, h3, h4, h5⟩ := get i key v e
    exact ⟨q'.1, by rw [h1, ← h2], h5⟩
  · have k' : ∀ b o, s.heap.get? b = some o → h'.get? b = some o := fun b o e => k b o (by simp) e
    have hm : (s.heap.objs.size == sysModules) = false := beq_eq_false_iff_ne.mpr (Nat.ne_of_gt I.big)
    have hlen : (mergeK [] kvs).length ≤ sizeLine := by
      refine Nat.le_trans (length_mergeK kvs []) ?_
      rw [List.length_nil, Nat.zero_add, rel.length, hl]
      exact hz
    exact ⟨.ref s.heap.objs.size, upd H s.heap.objs.size (.dK (mergeK [] kvs)), I.laid (t' := tk) k' (Nat.le_refl _) (show ObjOk X.prog X.w _ _ _ (.dK (mergeK [] kvs)) from ⟨hlen, hm, merged [] prs, KV.merge rel .nil, hd'⟩), rfl, q _ (I.hok.fresh (Nat.le_refl _))⟩
/-! plain tuples: a display, its slice -/
def tTupP (t : TA) : TE := fun σ H Q => t σ H fun xs H1 => xs.length ≤ sizeLine ∧ ∀ p o, H1 p = none → o.dict = none → Q (.ref p) (upd H1 p (.frz o (.tup xs)))
theorem pe_tupP {X : Cx} {es : List Expr} {t : TA} {k pos} (h : PA X es t) : PE X (.Tuple es k pos) (tTupP t) := by
  refine ⟨fun pins s σ H Q I hq => ?_⟩
  refine wpAny_Tuple_spliced (thn (h.run pos pins s σ H _ I hq) fun us s1 ⟨xs, H1, I1, r, z, q⟩ => ⟨by rw [← r.length]; exact z, ?_⟩)
  have hf : H1 s1.heap.objs.size = none := I1.hok.fresh (Nat.le_refl _)
  have hg := Heap.get?_push_size s1.heap (o := { cls := .type "tuple", data := .seq us.toArray }) rfl
  refine ⟨.ref s1.heap.objs.size, upd H1 s1.heap.objs.size (.frz { cls := .type "tuple", data := .seq us.toArray } (.tup xs)), I1.laid (t' := s1.toks) (fun b u e => Heap.get?_push_of_some _ e) (Nat.le_refl _) ?_, rfl, q _ _ hf rfl⟩
  exact ⟨hg, z, us, r, ⟨_, hg, rfl, _, rfl⟩⟩
def mTupP (ms : ML) : MV := fun η μ => (ms η μ).bind fun ds μ1 => if ds.length ≤ 10000000 then .ok (.ptu ds) μ1 else .stuck
theorem ee_tupP {X : Cx} {W : WX} {es : List Expr} {ms : ML} {k pos} (h : AA X W es ms) : EE X W (.Tuple es k pos) (mTupP ms) := (pe_tupP h).imp fun σ H Q q => by
  obtain ⟨φ, χ, ψ, μ, η, r, p⟩ := q
  refine rd_bind r p fun φ1 H1 μ1 ds xs g1 r1 rx p1 => ?_
  obtain ⟨c, p1⟩ := p1.ite
  refine ⟨line_le (by rw [rx.length]; exact c), fun a o ha hd => ?_⟩
  have g : Go φ1 H1 φ1 (upd H1 a (.frz o (.tup xs))) := .new ha
  exact p1 _ φ1 _ g (r1.mem.new ha) ⟨a, xs, rfl, ⟨o, upd_same, hd⟩, g.rpL rx⟩
/-! ### d as an argument: dict(t), tuple(d) -/
def pairD : D → Option (Key × D)
  | .tup [a, b] => (keyD a).map fun k => (k, b)
  | _ => none
def pairsD : List D → Option (List Key × List D)
  | [] => some ([], [])
  | d :: l => match pairD d, pairsD l with
    | some (k, b), some (ks, bs) => some (k :: ks, b :: bs)
    | _, _ => none
/-- later ones win -/
def mergeD : List Key → List D → List Key → List D → List Key × List D
  | ks, ds, k :: more, d :: md => mergeD (dputK ks k) (dputV ks ds k d) more md
  | ks, ds, _, _ => (ks, ds)
theorem merge_rp {K : PySem.W.Frag} {φ χ : List Addr} {H : Hp} : ∀ {more : List Key} {md : List D} {xm : List V} {ks : List Key} {ds : List D} {xs : List V}, ks.length = ds.length → RpL K φ χ H ds xs → more.length = md.length → RpL K φ χ H md xm →
    ∃ ys, mergeK (ks.zip xs) (more.zip xm) = (mergeD ks ds more md).1.zip ys ∧ (mergeD ks ds more md).1.length = (mergeD ks ds more md).2.length ∧ RpL K φ χ H (mergeD ks ds more md).2 ys
  | [], [], _, ks, ds, xs, hl, r, _, rm => by cases rm; exact ⟨xs, rfl, hl, r⟩
  | [], _ :: _, _, _, _, _, _, _, h, _ => by simp at h
  | _ :: _, [], _, _, _, _, _, _, h, _ => by simp at h
  | k :: more, d :: md, _, ks, ds, xs, hl, r, h, rm => by
    obtain ⟨x, q, rfl, r1, r2⟩ := rm
    obtain ⟨ys, e1, e2, e3⟩ := dput_rp (k := k) (d := d) hl r r1
    obtain ⟨zs, f1, f2, f3⟩ := merge_rp (more := more) (md := md) e2 e3 (by simpa using h) r2
    refine ⟨zs, ?_, f2, f3⟩
    show mergeK (putK (ks.zip xs) k x) (more.zip q) = _
    rw [e1]; exact f1
theorem pairs_rp {K : PySem.W.Frag} {φ χ : List Addr} {H : Hp} : ∀ {l : List D} {xs : List V} {ks : List Key} {bs : List D}, pairsD l = some (ks, bs) → RpL K φ χ H l xs →
    ∃ (ps : List Addr) (ys : List V), xs = ps.map V.ref ∧ ks.length = bs.length ∧ RpL K φ χ H bs ys ∧ Paired (fun p (kv : Key × V) => SqT K H p [kV kv.1, kv.2]) ps (ks.zip ys)
  | [], _, _, _, h, r => by cases h; cases r; exact ⟨[], [], rfl, rfl, rfl, .nil⟩
  | d :: l, _, _, _, h, r => by
    obtain ⟨x, q, rfl, r1, r2⟩ := r
    unfold pairsD at h
    cases hp : pairD d with
    | none => rw [hp] at h; cases h
    | some kb =>
      obtain ⟨k, b⟩ := kb
      cases hq : pairsD l with
      | none => rw [hp, hq] at h; cases h
      | some kbs =>
        obtain ⟨ks, bs⟩ := kbs
        rw [hp, hq] at h
        cases h
        obtain ⟨ps, ys, rfl, hl, rb, pr⟩ := pairs_rp hq r2
        unfold pairD at hp
        split at hp
        · rename_i a1 b1
          cases hk : keyD a1 with
          | none => rw [hk] at hp; cases hp
          | some k' =>
            rw [hk] at hp
            cases hp
            obtain ⟨p, xs2, rfl, hs, rr⟩ := r1
            obtain ⟨x1, x2, rfl, h1, h2⟩ := rr.two
            have e1 := keyD_rp hk h1
            subst e1
            exact ⟨p :: ps, x2 :: ys, rfl, by simp [hl], .cons h2 rb, .cons hs pr⟩
        · cases hp
def fDict (ds : List D) (μ : Mem) : R D := match ds with
  | [.ptu l] => match pairsD l with
    | some (ks, bs) => .ok (.dic (mergeD [] [] ks bs).1 (mergeD [] [] ks bs).2) μ
    | none => .stuck
  | _ => .stuck
theorem cs_dict {K : PySem.W.Frag} {mg : Str → Option Value} : CallS K mg fDict (rDictT K) := by
  intro W φ χ ψ μ σ H ds xs Q m r p
  unfold fDict at p
  split at p
  · rename_i l
    split at p
    · rename_i ks bs hl
      obtain ⟨x, rfl, rx⟩ := r.one
      obtain ⟨a, ys, rfl, ⟨o, ho, hd⟩, q⟩ := rx
      obtain ⟨ps, zs, rfl, hlen, rb, pr⟩ := pairs_rp hl q
      obtain ⟨us, e1, e2, e3⟩ := merge_rp (ks := []) (ds := []) (xs := []) rfl rfl hlen rb
      refine ⟨a, o, ps, _, rfl, ho, hd, pr, fun t ht => ?_⟩
      have e1' : mergeK [] (ks.zip zs) = (mergeD [] [] ks bs).1.zip us := e1
      rw [e1']
      have g : Go φ H φ (upd H t (.dK ((mergeD [] [] ks bs).1.zip us))) := .new ht
      exact p _ _ _ g (m.new ht) ⟨t, us, rfl, ⟨Gr.notin m ht, Gr.offχ m ht⟩, upd_same, e2, g.rpL e3⟩
    · exact p.elim
  · exact p.elim
/-- the keys and values of a dict -/
def dicOf (μ : Mem) : D → Option (List Key × List D)
  | .dic ks ds => some (ks, ds)
  | .ptr k => match μ[k]? with
    | some (.dic ks ds) => some (ks, ds)
    | _ => none
  | _ => none
theorem dicOf_rp {K : PySem.W.Frag} {mg : Str → Option Value} {φ χ ψ : List Addr} {H : Hp} {μ : Mem} {d : D} {v : V} {ks : List Key} {ds : List D} (m : MemOk K mg φ (χ ++ ψ) μ H) (r : Rp K φ χ H d v) (e : dicOf μ d = some (ks, ds)) :
    ∃ a xs, v = .ref a ∧ H a = some (.dK (ks.zip xs)) ∧ ks.length = ds.length ∧ RpL K φ χ H ds xs := by
  cases d with
  | dic ks' ds' =>
    cases e
    obtain ⟨a, xs, e, _, h, l, q⟩ := r
    exact ⟨a, xs, e, h, l, q⟩
  | ptr k =>
    unfold dicOf at e
    simp only at e
    split at e
    · rename_i ks' ds' hl
      cases e
      obtain ⟨a, ha, rfl⟩ := r
      obtain ⟨xs, e1, l, q⟩ := m.ats k _ a hl ha
      exact ⟨a, xs, rfl, e1, l, q.less fun _ z => List.mem_append_left _ z⟩
    · cases e
  | _ => cases e
def keyV : Key → D
  | .inl i => .int i
  | .inr s => .str s
theorem keys_rp {K : PySem.W.Frag} {φ χ : List Addr} {H : Hp} : ∀ (ks : List Key), RpL K φ χ H (ks.map keyV) (ks.map kV)
  | [] => rfl
  | .inl i :: ks => .cons rfl (keys_rp ks)
  | .inr s :: ks => .cons rfl (keys_rp ks)
/-- tuple of a list, a tuple, a dict -/
def fTuple' (ds : List D) (μ : Mem) : R D := match ds with
  | [d] => match dicOf μ d with
    | some (ks, _) => .ok (.tup (ks.map keyV)) μ
    | none => fTuple [d] μ
  | _ => .stuck
theorem or_tuple {X : Cx} (hc : X.calm = true) : CallR X (.type "tuple") (fun xs H Q => rTupD xs H Q ∨ (∃ p ys, xs = [.ref p] ∧ ((SqL X.K H p ys ∧ ∀ l, H l = none → Q (.ref l) (upd H l (.tup ys))) ∨ (SqT X.K H p ys ∧ Q (.ref p) H)))) := (call_tuple_dK hc).or call_tuple_of
theorem cs_tuple' {K : PySem.W.Frag} {mg : Str → Option Value} : CallS K mg fTuple' (fun xs H Q => rTupD xs H Q ∨ (∃ p ys, xs = [.ref p] ∧ ((SqL K H p ys ∧ ∀ l, H l = none → Q (.ref l) (upd H l (.tup ys))) ∨ (SqT K H p ys ∧ Q (.ref p) H)))) := by
  intro W φ χ ψ μ σ H ds xs Q m r p
  unfold fTuple' at p
  split at p
  · split at p
    · rename_i ks ds' hd
      obtain ⟨x, rfl, rx⟩ := r.one
      obtain ⟨a, ys, rfl, hq, hl, q⟩ := dicOf_rp m rx hd
      refine .inl ⟨a, _, rfl, hq, fun t ht => ?_⟩
      have e : ((ks.zip ys).map fun kv => kV kv.1) = ks.map kV := by
        have : (ks.zip ys).map Prod.fst = ks := List.map_fst_zip (by rw [q.length, hl]; exact Nat.le_refl _)
        conv => rhs; rw [← this]
        rw [List.map_map]; rfl
      rw [e]
      have g : Go φ H φ (upd H t (.tup (ks.map kV))) := .new ht
      exact p _ _ _ g (m.new ht) ⟨t, _, rfl, .of upd_same, keys_rp ks⟩
    · exact .inr (cs_tuple W φ χ ψ μ σ H _ _ Q m r p)
  · exact p.elim
end FP
/-! Core9: subscripts and in of dicts, texts' methods, new lists of every form. -/
namespace FP
open PySem PySem.Spec L2 PySem.W
open PyProof.Rows hiding St

theorem rd_bindE {α β γ δ : Type} {K : PySem.W.Frag} {mg : Str → Option Value} {W : WX} {rep : List Addr → List Addr → List Addr → Hp → α → β → Prop} {rep' : List Addr → List Addr → List Addr → Hp → γ → δ → Prop} {σ : L2.St} {φ χ ψ : List Addr} {H : Hp} {μ : Mem} {η : Env'}
    {m : Env' → Mem → R α} {g : α → Mem → R γ} {Q : δ → Hp → Prop} {C : β → Hp → Prop} (r : Rel K mg φ χ ψ μ η σ H) (p : Post K mg W rep' σ φ χ ψ H ((m η μ).bind g) Q)
    (k : ∀ φ1 H1 μ1 d x, m η μ = .ok d μ1 → Go φ H φ1 H1 → Rel K mg φ1 χ ψ μ1 η σ H1 → rep φ1 χ ψ H1 d x → Post K mg W rep' σ φ1 χ ψ H1 (g d μ1) Q → C x H1) : rd K mg W rep m σ H C := by
  refine ⟨φ, χ, ψ, μ, η, r, ?_⟩
  cases h : m η μ with
  | ok d μ1 =>
    rw [h] at p
    exact fun v φ1 H1 g1 m1 rp => k φ1 H1 μ1 d v h g1 (r.go g1 m1) rp (Post.go p g1)
  | exc x μ1 => rw [h] at p; exact p
  | stuck => rw [h] at p; exact p
section
variable {X : Cx} {W : WX} {a b e o : Expr} {es : List Expr} {ma mb mo me : MV} {ms : ML} {pos apos : Pos}
theorem mOp_congr {f f' : D → D → Mem → R D} {η : Env'} {μ : Mem} (h : ∀ o μ1 i μ2, ma η μ = .ok o μ1 → mb η μ1 = .ok i μ2 → f o i μ2 = f' o i μ2) : mOp f ma mb η μ = mOp f' ma mb η μ := by
  unfold mOp
  cases h1 : ma η μ with
  | ok o μ1 =>
    simp only [R.bind_ok]
    cases h2 : mb η μ1 with
    | ok i μ2 => simp only [R.bind_ok]; exact h o μ1 i μ2 h1 h2
    | exc x μ2 => rfl
    | stuck => rfl
  | exc x μ1 => rfl
  | stuck => rfl
/-- o[i], of a sequence or a dict -/
def fIxA (o i : D) (μ : Mem) : R D := match dicOf μ o with
  | some (ks, ds) => match keyD i with
    | some k => match dget ks ds k with
      | some d => .ok d μ
      | none => .stuck
    | none => .stuck
  | none => fIx o i μ
theorem ee_ixA (hu : X.A.units + 1 < cLine) (ha : EE X W a ma) (hb : EE X W b mb) (hs : PlainIx b := by intro _ _; rfl) : EE X W (.Subscript a b pos) (mOp fIxA ma mb) :=
  ((pe_ix ix_seq ha hb hs).or (pe_dget hu ha hb hs)).imp fun σ H Q q => by
    obtain ⟨φ, χ, ψ, μ, η, rl, p⟩ := q
    by_cases hd : ∃ o μ1 i μ2 kd, ma η μ = .ok o μ1 ∧ mb η μ1 = .ok i μ2 ∧ dicOf μ2 o = some kd
    · right
      obtain ⟨o, μ1, i, μ2, ⟨ks, ds⟩, e1, e2, e3⟩ := hd
      refine rd_bindE rl p fun φ1 H1 μ1' o' x ea g1 r1 rx p1 => ?_
      rw [e1] at ea
      cases ea
      refine rd_bindE r1 p1 fun φ2 H2 μ2' i' y eb g2 r2 ry p2 => ?_
      rw [e2] at eb
      cases eb
      unfold fIxA at p2
      rw [e3] at p2
      simp only at p2
      split at p2
      · rename_i k hk
        obtain ⟨a, xs, rfl, hq, hl, q⟩ := dicOf_rp r2.mem (g2.rp rx) e3
        have hg := dget_rp (k := k) hl q
        split at p2
        · rename_i d hd
          rw [hd] at hg
          obtain ⟨v, hv, rv⟩ := hg
          have ek := keyD_rp hk ry
          subst ek
          exact ⟨a, v, rfl, by rw [← hv]; exact DGet.k hq, p2 _ _ _ .refl r2.mem rv⟩
        · exact p2.elim
      · exact p2.elim
    · left
      have e1 : mOp fIxA ma mb η μ = mOp fIx ma mb η μ := mOp_congr fun o μ1 i μ2 h1 h2 => by
        unfold fIxA
        cases hk : dicOf μ2 o with
        | none => rfl
        | some kd => exact absurd ⟨o, μ1, i, μ2, kd, h1, h2, hk⟩ hd
      rw [e1] at p
      exact rd_op os_ix ⟨φ, χ, ψ, μ, η, rl, p⟩
/-- x in d, of a sequence, a text or a dict -/
def fInA (neg : Bool) (d e : D) (μ : Mem) : R D := match dicOf μ e with
  | some (ks, _) => match keyD d with
    | some k => .ok (.bl (if neg then !hasK ks k else hasK ks k)) μ
    | none => .stuck
  | none => if neg then fNotIn d e μ else fIn d e μ
theorem has_rp {K : PySem.W.Frag} {φ χ : List Addr} {H : Hp} {k : Key} : ∀ {ks : List Key} {ds : List D} {xs : List V}, ks.length = ds.length → RpL K φ χ H ds xs → (valV (ks.zip xs) k).isSome = hasK ks k
  | [], [], _, _, r => by cases r; rfl
  | [], _ :: _, _, h, _ => by simp at h
  | _ :: _, [], _, h, _ => by simp at h
  | k' :: ks, d :: ds, _, h, r => by
    obtain ⟨x, q, rfl, r1, r2⟩ := r
    have ih := has_rp (k := k) (ks := ks) (by simpa using h) r2
    by_cases e : k' = k
    · simp [valV, hasK, e]
    · have e2 : valV ((k' :: ks).zip (x :: q)) k = valV (ks.zip q) k := by simp [valV, e]
      rw [e2, ih]
      simp [hasK, e]
theorem rd_inA {neg : Bool} {σ : L2.St} {H : Hp} {Q : VK} (q : rd X.K X.mg W (rV X.K) (mOp (fInA neg) ma mb) σ H Q) :
    rd X.K X.mg W (rV X.K) (mOp (if neg then fNotIn else fIn) ma mb) σ H Q ∨ (if neg then tDNotIn (rd X.K X.mg W (rV X.K) ma) (rd X.K X.mg W (rV X.K) mb) σ H Q else tDIn (rd X.K X.mg W (rV X.K) ma) (rd X.K X.mg W (rV X.K) mb) σ H Q) := by
  obtain ⟨φ, χ, ψ, μ, η, rl, p⟩ := q
  by_cases hd : ∃ o μ1 i μ2 kd, ma η μ = .ok o μ1 ∧ mb η μ1 = .ok i μ2 ∧ dicOf μ2 i = some kd
  · right
    obtain ⟨o, μ1, i, μ2, ⟨ks, ds⟩, e1, e2, e3⟩ := hd
    have key : ∀ (f : V → V → Hp → Prop), (∀ φ2 H2 (x y : V), MemOk X.K X.mg φ2 (χ ++ ψ) μ2 H2 → Rp X.K φ2 χ H2 o x → Rp X.K φ2 χ H2 i y → Post X.K X.mg W (rV X.K) σ φ2 χ ψ H2 (fInA neg o i μ2) Q → f x y H2) →
        rd X.K X.mg W (rV X.K) ma σ H fun x H1 => rd X.K X.mg W (rV X.K) mb σ H1 fun y H2 => f x y H2 := fun f hf => by
      refine rd_bindE rl p fun φ1 H1 μ1' o' x ea g1 r1 rx p1 => ?_
      rw [e1] at ea
      cases ea
      refine rd_bindE r1 p1 fun φ2 H2 μ2' i' y eb g2 r2 ry p2 => ?_
      rw [e2] at eb
      cases eb
      exact hf φ2 H2 x y r2.mem (g2.rp rx) ry p2
    cases neg with
    | true =>
      refine key _ fun φ2 H2 x y m rx ry p2 => ?_
      unfold fInA at p2
      rw [e3] at p2
      simp only at p2
      split at p2
      · rename_i k hk
        obtain ⟨a, xs, rfl, hq, hl, q⟩ := dicOf_rp m ry e3
        have ek := keyD_rp hk rx
        subst ek
        refine ⟨a, _, rfl, DGet.k hq, ?_⟩
        rw [has_rp hl q]
        exact p2 _ _ _ .refl m rfl
      · exact p2.elim
    | false =>
      refine key _ fun φ2 H2 x y m rx ry p2 => ?_
      unfold fInA at p2
      rw [e3] at p2
      simp only at p2
      split at p2
      · rename_i k hk
        obtain ⟨a, xs, rfl, hq, hl, q⟩ := dicOf_rp m ry e3
        have ek := keyD_rp hk rx
        subst ek
        refine ⟨a, _, rfl, DGet.k hq, ?_⟩
        rw [has_rp hl q]
        exact p2 _ _ _ .refl m rfl
      · exact p2.elim
  · left
    refine ⟨φ, χ, ψ, μ, η, rl, ?_⟩
    have e1 : mOp (fInA neg) ma mb η μ = mOp (if neg then fNotIn else fIn) ma mb η μ := mOp_congr fun o μ1 i μ2 h1 h2 => by
      unfold fInA
      cases hk : dicOf μ2 i with
      | none => cases neg <;> rfl
      | some kd => exact absurd ⟨o, μ1, i, μ2, kd, h1, h2, hk⟩ hd
    rw [e1] at p
    exact p
theorem ee_in (hu : X.A.units + 1 < cLine) (ha : EE X W a ma) (hb : EE X W b mb) (hm : behindInMarks .In b = false := by rfl) : EE X W (.Compare a [.In] [b] pos) (mOp (fInA false) ma mb) :=
  ((pe_cmpR or_in ha hb hm).or (pe_cmp (pc_din hu ha hb) hm)).imp fun σ H Q q => (rd_inA q).imp (fun h => rd_op os_in h) id
theorem ee_notIn (hu : X.A.units + 1 < cLine) (ha : EE X W a ma) (hb : EE X W b mb) (hm : behindInMarks .NotIn b = false := by rfl) : EE X W (.Compare a [.NotIn] [b] pos) (mOp (fInA true) ma mb) :=
  ((pe_cmpR or_notIn ha hb hm).or (pe_cmp (pc_dnotin hu ha hb) hm)).imp fun σ H Q q => (rd_inA q).imp (fun h => rd_op os_notIn h) id
theorem _root_.L2.PT.or {X : Cx} {e : Expr} {t u : TT} (h : PT X e t) (h' : PT X e u) : PT X e (fun σ H Q => t σ H Q ∨ u σ H Q) := ⟨fun pins s σ H Q I q => q.elim (h.run pins s σ H Q I) (h'.run pins s σ H Q I)⟩
theorem tt_in (hu : X.A.units + 1 < cLine) (ha : EE X W a ma) (hb : EE X W b mb) (hm : behindInMarks .In b = false := by rfl) : TT' X W (.Compare a [.In] [b] pos) (mTst (mOp (fInA false) ma mb)) :=
  ((pt_cmpR or_in ha hb hm).or (pt_cmp (pc_din hu ha hb) hm)).imp fun σ H Q q => (rd_inA (rd_tst q)).imp (fun h => rd_op os_in h) id
theorem tt_notIn (hu : X.A.units + 1 < cLine) (ha : EE X W a ma) (hb : EE X W b mb) (hm : behindInMarks .NotIn b = false := by rfl) : TT' X W (.Compare a [.NotIn] [b] pos) (mTst (mOp (fInA true) ma mb)) :=
  ((pt_cmpR or_notIn ha hb hm).or (pt_cmp (pc_dnotin hu ha hb) hm)).imp fun σ H Q q => (rd_inA (rd_tst q)).imp (fun h => rd_op os_notIn h) id
/-! ### texts' methods -/
def strsD : List D → Option (List Str)
  | [] => some []
  | .str s :: l => (strsD l).map (s :: ·)
  | _ => none
theorem strsD_rp {K : PySem.W.Frag} {φ χ : List Addr} {H : Hp} : ∀ {ds : List D} {xs : List V} {ss : List Str}, RpL K φ χ H ds xs → strsD ds = some ss → xs = ss.map V.str
  | [], _, _, r, h => by cases h; cases r; rfl
  | d :: l, _, _, r, h => by
    obtain ⟨x, q, rfl, r1, r2⟩ := r
    cases d with
    | str s =>
      unfold strsD at h
      cases hl : strsD l with
      | none => rw [hl] at h; cases h
      | some ss => rw [hl] at h; cases h; cases r1; rw [strsD_rp r2 hl]; rfl
    | _ => cases h
/-- a method of a text with one argument -/
def mM1 (f : Str → D → Mem → R D) (mo me : MV) : MV := fun η μ => (mo η μ).bind fun o μ1 => match o with
  | .str a => (me η μ1).bind fun d μ2 => f a d μ2
  | _ => .stuck
theorem rd_m1 {f : Str → D → Mem → R D} {r : V → List V → Hp → VK → Prop} {σ : L2.St} {H : Hp} {Q : VK} (hr : ∀ (φ : List Addr) (μ : Mem) (χ ψ : List Addr) (H : Hp) (a : Str) (d : D) (y : V), MemOk X.K X.mg φ (χ ++ ψ) μ H → Rp X.K φ χ H d y → Post X.K X.mg W (rV X.K) σ φ χ ψ H (f a d μ) Q → r (.str a) [y] H Q)
    (q : rd X.K X.mg W (rV X.K) (mM1 f mo me) σ H Q) : tM1 r (rd X.K X.mg W (rV X.K) mo) (rd X.K X.mg W (rV X.K) me) σ H Q := by
  obtain ⟨φ, χ, ψ, μ, η, rl, p⟩ := q
  refine rd_bind rl p fun φ1 H1 μ1 o x g1 r1 rx p1 => ?_
  split at p1
  · rename_i a
    cases rx
    refine ⟨⟨_, rfl⟩, ?_⟩
    refine rd_bind r1 p1 fun φ2 H2 μ2 l y g2 r2 ry p2 => ?_
    exact hr φ2 μ2 χ ψ H2 a l y r2.mem ry p2
  · exact p1.elim
def fJoin (a : Str) (l : D) (μ : Mem) : R D := match aseq μ l with
  | some ds => match strsD ds with
    | some ys => if (ys.map (·.length)).sum + ys.length * a.length ≤ 10000000 then .ok (.str (Txt.join a ys)) μ else .stuck
    | none => .stuck
  | none => .stuck
theorem ee_join (ho : EE X W o mo) (he : EE X W e me) (hs : starEach [e] X.env = [(false, eval e X.env)] := by rfl) (hbase : attributeBase o "join" X.env (eval o X.env) = eval o X.env := by rfl) (hline : (apos.endLine == pos.line) = true := by rfl) :
    EE X W (.Call (.Attribute o "join" apos) [e] [] pos) (mM1 fJoin mo me) := (pe_join ho he hs hbase hline).imp fun σ H Q q => rd_m1 (fun φ μ χ ψ H a d y m ry p2 => by
  unfold fJoin at p2
  split at p2
  · rename_i ds hds
    split at p2
    · rename_i ys hys
      obtain ⟨c, p2⟩ := p2.ite
      obtain ⟨b, xs, rfl, hq, q⟩ := aseq_rp m ry hds
      have ex := strsD_rp q hys
      subst ex
      exact ⟨a, b, ys, rfl, rfl, hq, Nat.le_trans c (by decide), p2 _ _ _ .refl m rfl⟩
    · exact p2.elim
  · exact p2.elim) q
end
/-! ### new lists: a comprehension, a + b, a[i:j], list(a) -/
section
variable {X : Cx} {W : WX} {ω : List Nat} {elt tg iter e : Expr} {ifs es : List Expr} {scope : Scope} {own : List (Str × Nat)} {pos : Pos} {mi : MI} {g : Tg} {tst : MB} {me : MV}
theorem rdF_lc {σ : L2.St} {H : Hp} {Q : VK} {vs : List Nat} (hv : ∀ i ∈ tgIn g, i ∈ vs) (q : rdF X.K X.mg W (mLc mi g vs tst me) σ H Q) :
    tLc (rdI X.K X.mg W mi) (gOf X.K g) (rd X.K X.mg W0 rB tst) (rd X.K X.mg W0 (rV X.K) me) vs σ H Q := by
  obtain ⟨φ, χ, ψ, μ, η, rl, p⟩ := q
  refine ⟨φ, χ, ψ, μ, η, rl, ?_⟩
  unfold mLc at p
  cases hm : mi η μ with
  | exc x μ1 => rw [hm] at p; exact p
  | stuck => rw [hm] at p; exact p
  | ok ds μ1 =>
    rw [hm] at p
    simp only [FP.R.bind_ok] at p
    intro J φ1 H1 g1 m1 hJ
    refine lc_run (P := fun r => PostF X.K X.mg W σ φ χ ψ H r Q) (fun z => z) hv (rl.go g1 m1) hJ p fun Dl φ' μ' acc xs H' hD g' m' hl ra p' => ?_
    refine p' _ φ' [Dl] H' (g1.trans g') (m'.less fun b z => ?_) (fun b z => by simp at z; rw [z]; exact none_back g1.gr hD) ⟨Dl, xs, rfl, ⟨m'.dis Dl (by simp), Gr.offχ m1 hD⟩, hl, ra.less fun a z => List.mem_cons_of_mem _ z⟩ fun b e => by cases e; simp
    simp only [List.mem_append, List.mem_cons, List.cons_append, List.not_mem_nil, or_false] at z ⊢
    rcases z with z | z | z <;> simp [z]
theorem ef_lc (hc : X.calm = true) (hN : X.N.Nodup) (g : Tg) (hv : ∀ i ∈ tgIn g, i ∈ own.map (·.2)) (hi : II X W tg iter mi) (ok : BlkOk X.N X.env.scope scope own)
    (hg : ∀ (s : Shared) (H : Hp) (C : Addr) (cl : List (Str × Addr)) (fp : List Addr), PG (X.blk s H scope (compEnvC scope cl C X.env) fp) tg (gOf X.K g))
    (ht : ∀ (s : Shared) (H : Hp) (C : Addr) (cl : List (Str × Addr)) (fp : List Addr), PTs (X.blk s H scope (compEnvC scope cl C X.env) fp) ifs (rd X.K X.mg W0 rB tst))
    (he : ∀ (s : Shared) (H : Hp) (C : Addr) (cl : List (Str × Addr)) (fp : List Addr), PE (X.blk s H scope (compEnvC scope cl C X.env) fp) elt (rd X.K X.mg W0 (rV X.K) me))
    (hs : ∀ x, foldedSetIterable iter X.env x = pure x := by intro _; rfl) : EF X W (.ListComp elt [⟨tg, iter, ifs, 0⟩] scope pos) (mLc mi g (own.map (·.2)) tst me) :=
  (pe_lc hc hN hi ok hg ht he hs).imp fun σ H Q q => rdF_lc hv q
/-- y = [..], y a plain name -/
theorem ss_setLc {i : Nat} {y : Str} {py : Pos} {spos : Pos} (hc : X.calm = true) (hN : X.N.Nodup) (g : Tg) (hv : ∀ i ∈ tgIn g, i ∈ own.map (·.2)) (hy : X.N[i]? = some y) (hyl : X.env.scope.names.lookup y = some .local)
    (hsw : swapsWith (.ListComp elt [⟨tg, iter, ifs, 0⟩] scope pos) (some (.Name y py)) spos.line X.env = pure true) (hi : II X W tg iter mi) (ok : BlkOk X.N X.env.scope scope own)
    (hg : ∀ (s : Shared) (H : Hp) (C : Addr) (cl : List (Str × Addr)) (fp : List Addr), PG (X.blk s H scope (compEnvC scope cl C X.env) fp) tg (gOf X.K g))
    (ht : ∀ (s : Shared) (H : Hp) (C : Addr) (cl : List (Str × Addr)) (fp : List Addr), PTs (X.blk s H scope (compEnvC scope cl C X.env) fp) ifs (rd X.K X.mg W0 rB tst))
    (he : ∀ (s : Shared) (H : Hp) (C : Addr) (cl : List (Str × Addr)) (fp : List Addr), PE (X.blk s H scope (compEnvC scope cl C X.env) fp) elt (rd X.K X.mg W0 (rV X.K) me)) (ho : i ∉ ω := by decide)
    (hs : ∀ x, foldedSetIterable iter X.env x = pure x := by intro _; rfl) : SS X W ω (.Assign [.Name y py] (.ListComp elt [⟨tg, iter, ifs, 0⟩] scope pos) spos) (sSet ω i (mLc mi g (own.map (·.2)) tst me)) :=
  (ps_setLc hc hN hy hyl hsw hi ok hg ht he hs).imp fun D σ H q => by
    obtain ⟨φ, χ, ψ0, ψ, μ, η, r, p⟩ := q
    refine rd_lc hv (W := W) ?_
    refine rdS_bind r p fun φ1 H1 μ1 d v g1 r1 rv p1 => ?_
    split at p1
    · rename_i c
      exact p1 _ φ1 ψ H1 .refl (r1.set ho (r1.sealed c rv))
    · exact p1.elim
/-- a + b, two lists -/
def fAddL : FP.D → FP.D → Mem → R FP.D
  | .lst a, .lst b, μ => if a.length + b.length ≤ 10000000 then .ok (.lst (a ++ b)) μ else .stuck
  | _, _, _ => .stuck
theorem ef_add {a b : Expr} {ma mb : MV} (ha : EE X W a ma) (hb : EE X W b mb) : EF X W (.BinOp a .Add b pos) (mOp fAddL ma mb) := (pe_op op_cat ha hb).imp fun σ H Q q => by
  obtain ⟨φ, χ, ψ, μ, η, rl, p⟩ := q
  refine ⟨φ, χ, ψ, μ, η, rl, ?_⟩
  unfold mOp at p
  cases h1 : ma η μ with
  | exc x μ1 => rw [h1] at p; exact p
  | stuck => rw [h1] at p; exact p
  | ok d μ1 =>
    rw [h1] at p
    simp only [FP.R.bind_ok] at p
    intro x φ1 H1 g1 m1 rx
    refine ⟨φ1, χ, ψ, μ1, η, rl.go g1 m1, ?_⟩
    cases h2 : mb η μ1 with
    | exc x μ2 => rw [h2] at p; exact fun c a φ2 H2 g2 m2 rx => p c a φ2 H2 (g1.trans g2) m2 rx
    | stuck => rw [h2] at p; exact p
    | ok e μ2 =>
      rw [h2] at p
      simp only [FP.R.bind_ok] at p
      intro y φ2 H2 g2 m2 ry
      unfold fAddL at p
      split at p
      · split at p
        · rename_i c
          obtain ⟨a1, xs, e1, n1, q1, r1⟩ := g2.rp rx
          obtain ⟨a2, ys, e2, n2, q2, r2⟩ := ry
          refine ⟨a1, a2, xs, ys, e1, e2, q1, q2, line_le (by rw [r1.length, r2.length]; exact c), fun t ht => ?_⟩
          have g : Go φ2 H2 φ2 (upd H2 t (.lst (xs ++ ys))) := .new ht
          refine p _ φ2 [t] _ ((g1.trans g2).trans g) ((m2.hid ht).less fun b z => ?_) (fun b z => by simp at z; rw [z]; exact none_back (g1.trans g2).gr ht) ⟨t, _, rfl, ⟨Gr.notin m2 ht, Gr.offχ m2 ht⟩, upd_same, g.rpL (r1.append r2)⟩ fun b e => by cases e; simp
          simp only [List.mem_append, List.mem_cons, List.not_mem_nil, or_false] at z ⊢
          rcases z with z | z | z <;> simp [z]
        · exact p.elim
      · exact p.elim
/-- list(a), a list or a tuple -/
theorem ef_list {a : Expr} {ma : MV} {p : Pos} (hm : X.mg "list" = none) (ha : EE X W a ma) (hv : bootBuiltins "list" = some (.type "list") := by decide +kernel) (hg : Gl X "list" := by rfl) (he : starEach (a :: []) X.env = (false, eval a X.env) :: starEach [] X.env := by rfl) (hpl : (backTo pos (starEach [] X.env)).any (·.1) = false := by rfl) :
    EF X W (.Call (.Name "list" p) [a] [] pos) (mCall fList (aCons ma aNil)) := (pe_callTy call_list_of hg hm hv (aa_cons ha aa_nil he) (by decide) (by decide) he hpl).imp fun σ H Q q => by
  obtain ⟨φ, χ, ψ, μ, η, rl, p⟩ := q
  refine ⟨φ, χ, ψ, μ, η, rl, ?_⟩
  unfold mCall at p
  cases hms : aCons ma aNil η μ with
  | exc x' μ1 => rw [hms] at p; exact p
  | stuck => rw [hms] at p; exact p
  | ok as μ1 =>
    rw [hms] at p
    simp only [FP.R.bind_ok] at p
    intro xs φ1 H1 g1 m1 rx
    unfold fList at p
    split at p
    · split at p
      · rename_i l hl
        obtain ⟨x, ex, rx2⟩ := RpL.one rx
        subst ex
        obtain ⟨a, ys, rfl, hq, q⟩ := aseq_rp m1 rx2 hl
        refine ⟨a, ys, rfl, hq, fun t ht => ?_⟩
        have g : Go φ1 H1 φ1 (upd H1 t (.lst ys)) := .new ht
        refine p _ φ1 [t] _ (g1.trans g) ((m1.hid ht).less fun b z => ?_) (fun b z => by simp at z; rw [z]; exact none_back g1.gr ht) ⟨t, _, rfl, ⟨Gr.notin m1 ht, Gr.offχ m1 ht⟩, upd_same, g.rpL q⟩ fun b e => by cases e; simp
        simp only [List.mem_append, List.mem_cons, List.not_mem_nil, or_false] at z ⊢
        rcases z with z | z | z <;> simp [z]
      · exact p.elim
    · exact p.elim
end
/-! ### a plain tuple's slice -/
def rSlP : V → Option Int → Option Int → Hp → VK → Prop := fun x lo hi H Q => ∃ a o xs, x = .ref a ∧ H a = some (.frz o (.tup xs)) ∧ o.dict = none ∧
  (HT.sIx xs.length 0 lo = 0 ∧ HT.sIx xs.length xs.length hi = xs.length → Q (.ref a) H) ∧ (¬ (HT.sIx xs.length 0 lo = 0 ∧ HT.sIx xs.length xs.length hi = xs.length) → ∀ p o, H p = none → o.dict = none → Q (.ref p) (upd H p (.frz o (.tup (cutV xs lo hi)))))
theorem sl_tupP {X : Cx} : SlR X rSlP := by
  intro pins s σ H x v vl vu lo hi sl Q I rx hs pl pu h
  obtain ⟨a, o, xs, rfl, hx0, hd, q1, q2⟩ := h
  have hx : SqT X.K H a xs := .inl (.inr ⟨o, hx0⟩)
  by_cases hw : HT.sIx xs.length 0 lo = 0 ∧ HT.sIx xs.length xs.length hi = xs.length
  · exact sl_tupA pins s σ H _ v vl vu lo hi sl Q I rx hs pl pu ⟨a, xs, rfl, hx, q1, fun n => absurd hw n⟩
  · cases rx
    obtain ⟨its, r, ht, hz⟩ := I.tuple hx
    have hlen : its.toArray.size = xs.length := by rw [List.size_toArray]; exact r.length.symm
    refine ⟨"tuple", _, PyProof.Rows.slot_tuple_getitem.lookup, ht.typeIs, ?_⟩
    refine HT.getItem_tuple_cut ht hs pl pu (by rw [hlen]; exact hw) ?_ (by rw [hlen]; exact hz)
    rw [hlen]
    have hg := Heap.get?_push_size s.heap (o := { cls := .type "tuple", data := .seq ((its.toArray.toList.drop (HT.sIx xs.length 0 lo)).take (HT.sIx xs.length xs.length hi - HT.sIx xs.length 0 lo)).toArray }) rfl
    refine ⟨.ref s.heap.objs.size, _, I.laid (t' := s.toks) (o := .frz _ (.tup (cutV xs lo hi))) (fun b ob q => Heap.get?_push_of_some _ q) (Nat.le_refl _) ⟨hg, ?_⟩, rfl, q2 hw _ _ (I.hok.fresh (Nat.le_refl _)) rfl⟩
    exact ⟨Nat.le_trans (cutV_length xs lo hi) hz, _, (r.drop (HT.sIx xs.length 0 lo)).take (HT.sIx xs.length xs.length hi - HT.sIx xs.length 0 lo), IsTup.new _ _⟩
def fSlP (o : D) (lo hi : Option Int) (μ : Mem) : R D := match o with
  | .ptu l => .ok (.ptu (cutD l lo hi)) μ
  | _ => .stuck
def mSlP (a : MV) (lo hi : MO) : MV := fun η μ => (a η μ).bind fun o μ1 => (lo η μ1).bind fun l μ2 => (hi η μ2).bind fun h μ3 => fSlP o l h μ3
theorem ee_slP {X : Cx} {W : WX} {a : Expr} {lo hi : Option Expr} {ma : MV} {ml mh : MO} {p2 pos : Pos} (ha : EE X W a ma) (hl : OO X W lo ml) (hh : OO X W hi mh) : EE X W (.Subscript a (.Slice lo hi none p2) pos) (mSlP ma ml mh) := (pe_slice sl_tupP ha hl hh).imp fun σ H Q q => by
  obtain ⟨φ, χ, ψ, μ, η, rl, p⟩ := q
  refine rd_bind rl p fun φ1 H1 μ1 d x g1 r1 rx p1 => ?_
  refine rd_bind r1 p1 fun φ2 H2 μ2 l l' g2 r2 rl p2 => ?_
  cases rl
  refine rd_bind r2 p2 fun φ3 H3 μ3 h h' g3 r3 rh p3 => ?_
  cases rh
  unfold fSlP at p3
  split at p3
  · obtain ⟨a, xs, rfl, ⟨o, ho, hd⟩, q⟩ := g3.rp (g2.rp rx)
    refine ⟨a, o, xs, rfl, ho, hd, fun w => ?_, fun _ t ob ht hd2 => ?_⟩
    · refine p3 _ _ _ .refl r3.mem ⟨a, xs, rfl, ⟨o, ho, hd⟩, ?_⟩
      have e : cutV xs l h = xs := by
        unfold cutV
        rw [w.1, w.2, List.drop_zero, Nat.sub_zero, List.take_length]
      rw [← e]; exact cut_rp q
    · have g : Go φ3 H3 φ3 (upd H3 t (.frz ob (.tup (cutV xs l h)))) := .new ht
      exact p3 _ _ _ g (r3.mem.new ht) ⟨t, _, rfl, ⟨ob, upd_same, hd2⟩, g.rpL (cut_rp q)⟩
  · exact p3.elim
end FP
/-! Core10: what the generated terms name. -/
namespace FP
open PySem PySem.Spec L2 PySem.W
open PyProof.Rows hiding St

theorem or_eq {X : Cx} (hu : X.A.units + 64 < cLine) : OpR X (compareOp .Eq) (rEqF X.K) := op_eq.or (op_eqD hu)
theorem or_ne {X : Cx} (hu : X.A.units + 64 < cLine) : OpR X (compareOp .NotEq) (rNeF X.K) := op_ne.or (op_neD hu)
theorem units1 {A : Around} {k : Nat} (hr : Room k A) : A.units + 1 < cLine := hu_of hr
/-! ** and list * int -/
def fPow : D → D → Mem → R D
  | .int i, .int j, μ => if (decide (0 ≤ j) && decide (j ≤ 1000000) && decide (i.natAbs < 2 ^ 64)) = true then .ok (.int (i ^ j.toNat)) μ else .stuck
  | _, _, _ => .stuck
theorem os_pow {K : PySem.W.Frag} {mg : Str → Option Value} : OpS K mg fPow (rI CPow fun i j => .int (i ^ j.toNat)) := by
  intro W φ χ ψ μ σ H d e x y Q m rx ry p
  unfold fPow at p
  split at p
  · obtain ⟨c, p⟩ := p.ite
    simp only [Bool.and_eq_true, decide_eq_true_eq] at c
    exact ⟨_, _, rx, ry, ⟨c.1.1, c.1.2, c.2⟩, p _ _ _ .refl m rfl⟩
  · exact p.elim
theorem ee_pow {X : Cx} {W : WX} {a b : Expr} {ma mb : MV} {pos : Pos} (ha : EE X W a ma) (hb : EE X W b mb) : EE X W (.BinOp a .Pow b pos) (mOp fPow ma mb) := ee_op op_pow os_pow ha hb
def repD (l : List D) : Nat → List D
  | 0 => []
  | n + 1 => l ++ repD l n
def fMulA : D → D → Mem → R D
  | .lst l, .int k, μ => if (decide (-(2 ^ 63) ≤ k) && decide (k < 2 ^ 63) && decide (l.length * k.toNat ≤ 10000000)) = true then .ok (.lst (repD l k.toNat)) μ else .stuck
  | d, e, μ => fMul d e μ
theorem repD_rp {K : PySem.W.Frag} {φ χ : List Addr} {H : Hp} {l : List D} {xs : List V} (r : RpL K φ χ H l xs) : ∀ n : Nat, RpL K φ χ H (repD l n) (List.replicate n xs).flatten
  | 0 => .nil
  | n + 1 => by
    rw [List.replicate_succ, List.flatten_cons]
    exact r.append (repD_rp r n)
theorem os_mulA {K : PySem.W.Frag} {mg : Str → Option Value} : OpS K mg fMulA (fun x y H Q => rRep x y H Q ∨ rI CMul (fun i j => .int (i * j)) x y H Q) := by
  intro W φ χ ψ μ σ H d e x y Q m rx ry p
  unfold fMulA at p
  split at p
  · rename_i l k
    obtain ⟨c, p⟩ := p.ite
    simp only [Bool.and_eq_true, decide_eq_true_eq] at c
    obtain ⟨a, xs, rfl, n, h, q⟩ := rx
    cases ry
    refine .inl ⟨a, _, xs, rfl, rfl, h, c.1.1, c.1.2, by rw [q.length]; exact line_le c.2, fun t ht => ?_⟩
    have g : Go φ H φ (upd H t (.lst (List.replicate k.toNat xs).flatten)) := .new ht
    exact p _ _ _ g (m.new ht) ⟨t, _, rfl, ⟨Gr.notin m ht, Gr.offχ m ht⟩, upd_same, g.rpL (repD_rp q _)⟩
  · exact .inr (os_mul W φ χ ψ μ σ H _ _ _ _ Q m rx ry p)
theorem ee_mulA {X : Cx} {W : WX} {a b : Expr} {ma mb : MV} {pos : Pos} (ha : EE X W a ma) (hb : EE X W b mb) : EE X W (.BinOp a .Mult b pos) (mOp fMulA ma mb) := ee_op (op_rep.or op_mul) os_mulA ha hb
/-! a, b = x, y -/
def sPar (ω : List Nat) (i j : Nat) (ma mb : MV) : MS := fun η μ => liftR (ma η μ) η fun a μ1 => liftR (mb η μ1) η fun b μ2 => if (!ω.contains i && !ω.contains j && (ω.isEmpty || (noL a && noL b))) = true then .nx ((η.set i (some a)).set j (some b)) μ2 else .stuck
theorem ss_par {X : Cx} {W : WX} {ω : List Nat} {i j : Nat} {x y : Str} {a b : Expr} {ma mb : MV} {px py pt pos : Pos} {kt k2 pt2} (hc : X.calm = true) (hN : X.N.Nodup) (hi : X.N[i]? = some x) (hj : X.N[j]? = some y) (hij : i ≠ j)
    (hx : X.env.scope.names.lookup x = some .local) (hy : X.env.scope.names.lookup y = some .local) (ha : EE X W a ma) (hb : EE X W b mb)
    (hw : swappedStores [.Tuple [.Name x px, .Name y py] kt pt] (.Tuple [a, b] k2 pt2) X.env = pure (some [x, y]) := by rfl)
    (hs : swapsWithSole [.Tuple [.Name x px, .Name y py] kt pt] (.Tuple [a, b] k2 pt2) pos.line X.env = pure false := by rfl)
    (hs1 : starEach (a :: [b]) X.env = (false, eval a X.env) :: starEach [b] X.env := by rfl) (hs2 : starEach (b :: []) X.env = (false, eval b X.env) :: starEach [] X.env := by rfl) :
    SS X W ω (.Assign [.Tuple [.Name x px, .Name y py] kt pt] (.Tuple [a, b] k2 pt2) pos) (sPar ω i j ma mb) := (ps_par hc hN hi hj hij hx hy (pa_cons ha (pa_cons hb pa_nil hs2) hs1) hw hs).imp fun D σ H q => by
  obtain ⟨φ, χ, ψ0, ψ, μ, η, r, p⟩ := q
  refine rdS_bind r p fun φ1 H1 μ1 d1 v1 g1 r1 rv1 p1 => ?_
  refine rdS_bind r1 p1 fun φ2 H2 μ2 d2 v2 g2 r2 rv2 p2 => ?_
  split at p2
  · rename_i c
    simp only [Bool.and_eq_true, Bool.not_eq_true'] at c
    have hi' : i ∉ ω := fun z => by have := c.1.1; simp [z] at this
    have hj' : j ∉ ω := fun z => by have := c.1.2; simp [z] at this
    have c1 : (ω.isEmpty || noL d1) = true := by
      rcases Bool.or_eq_true _ _ ▸ c.2 with h | h
      · simp [h]
      · simp [(Bool.and_eq_true _ _ ▸ h).1]
    have c2 : (ω.isEmpty || noL d2) = true := by
      rcases Bool.or_eq_true _ _ ▸ c.2 with h | h
      · simp [h]
      · simp [(Bool.and_eq_true _ _ ▸ h).2]
    refine ⟨v1, v2, rfl, ?_⟩
    exact p2 _ φ2 ψ H2 .refl ((r2.set hi' (r2.sealed c1 (g2.rp rv1))).set hj' (r2.sealed c2 rv2))
  · exact p2.elim
/-- defs with defaults too -/
theorem okD {P : Program} {w : World} {K : PySem.W.Frag} {mg : Str → Option Value} {base : Heap} {x qual : Str} {st : Stmt} {f : Addr} {fd : FuncData} {N ps : List Str} {k : Nat} {ω : List Nat} {B : MS} {dvs : List V} (F : FunD K x qual (defArgs st) (defBody st) (defScope st) dvs [] f fd) (S : FnScope N ps (defScope st)) (hω : ω.all (fun i => decide (ps.length ≤ i)) = true)
    (hb : ∀ (cdv : Value) (A : Around) (outer : List Env) (s : Shared) (H : Hp) (E : XK), Room k (A.deeper (envOfC qual (defScope st) s.heap.objs.size f cdv)) →
      SSs (cxOf (L2.CX P w) P w K mg base N qual (defScope st) f cdv A outer s H E) (fun cls d _ H => E cls d H) ω (defBody st) B) : FnOk P w K mg base (L2.CX P w) (k + 1) f fd ps (spF K mg ps.length (runF N.length B)) :=
  F.ok S (fun vs H Q E h => h.1) fun cdv A outer s H vs Q E hr hsp => ⟨_, hb cdv A outer s H E hr, body_run S hω hsp⟩
end FP
/-! Core11: the law's head. -/
namespace FP
open PySem PySem.Spec L2 PySem.W
open PyProof.Rows hiding St

/-- law(script): for a list of at most 63 ints that nobody changes the answer is True -/
def spL (K : PySem.W.Frag) : Sp := fun vs H Q _ => ∃ (a : Addr) (ns : List Int), vs = [.ref a] ∧ FzL K H a (ns.map V.int) ∧ ns.length ≤ 63 ∧ ∀ H', Q (.bl true) H'
theorem ints_rp {K : PySem.W.Frag} {φ ψ : List Addr} {H : Hp} : ∀ ns : List Int, RpL K φ ψ H (ns.map D.int) (ns.map V.int)
  | [] => .nil
  | _ :: ns => .cons rfl (ints_rp ns)
theorem spL_spF {K : PySem.W.Frag} {mg : Str → Option Value} {F : FN} (hF : ∀ ns : List Int, ns.length ≤ 63 → ∃ μ, F [.fro (ns.map .int)] [] = .ok (.bl true) μ) {vs : List V} {H : Hp} {Q : VK} {E : XK} (h : spL K vs H Q E) : spF K mg 1 F vs H Q E := by
  obtain ⟨a, ns, rfl, hz, hl, q⟩ := h
  obtain ⟨μ, e⟩ := hF ns hl
  refine ⟨rfl, [], [], [], [], [.fro (ns.map .int)], ?_, .cons ⟨a, _, rfl, hz, ints_rp ns⟩ .nil, ?_⟩
  · exact ⟨rfl, List.nodup_nil, (fun k c a h => by simp at h), (fun a h => by cases h), (fun a h => by cases h)⟩
  · rw [e]
    intro v φ' N H' _ _ _ r _
    cases r
    exact q H'
theorem walkL {l : PySem.W.OpenLaw} {k : Nat} {q : Program} {loose : List Str} {XP : (Str → Option Value) → Heap → Prop} {YP : World → Heap → Prop} {d : DefRec} {K : Params → PySem.W.Frag} (hn : l.most = some 63) (hdf : d.params.defaults = []) (hr : Room k callerA)
    (hY : ∀ (w : World) (h : Heap), YP w h → (K w.params).In h)
    (F : ∀ (w : World) (mg : Str → Option Value) (fa : Addr) (h : Heap), (K w.params).In h → h.Ns mainGlobals mg → mg d.name = some (.ref fa) →
      ∃ fd : FuncData, (∀ (s : Shared) (u : Value), BindsTo s fd ⟨[u], []⟩ [("script", u)]) ∧ ∀ base : Heap, (K w.params).In base → base.Ns mainGlobals mg → FnOk l.prog w (K w.params) mg base (L2.CX l.prog w) k fa fd ["script"] (spL (K w.params))) :
    PySem.W.WalkO q loose XP YP l.row.toRowW d [] (fun f vs => PySem.call f vs) :=
  L2.walk_of (n := 63) (k := k) (x := "script") (CX := fun w => L2.CX l.prog w) (sp := fun w => spL (K w.params)) hn (by decide) hdf hr hY F
    (fun _ H a ns hl hO hS => ⟨a, ns, rfl, by
      rcases hS with (h | h) | h
      · rcases hO a with e | ⟨o, xs, e⟩ <;> (rw [e] at h; cases h)
      · exact .inl h
      · exact .inr h, hl, fun _ => rfl⟩)
    fun _ _ _ _ _ h => by
      obtain ⟨_, _, _, _, _, _, _, _, _, _, _, _, z⟩ := h
      exact z.elim
theorem funD_mk {K : PySem.W.Frag} {x qual : Str} {st : Stmt} {f : Addr} {oc : Value} {od an : Option Addr} {osl : Array (Option Value)} {kV doc pm cdv ct : Value} (l : K.lookup f = some ⟨oc, od, .func (PySem.W.fnOf x qual (defArgs st) (defBody st) (defScope st) .none kV doc pm an cdv ct), osl⟩)
    (c : PySem.W.codeIn K cdv qual = true) (k : PySem.W.keepIn K (.ref f) = true) : FunD K x qual (defArgs st) (defBody st) (defScope st) [] [] f (PySem.W.fnOf x qual (defArgs st) (defBody st) (defScope st) .none kV doc pm an cdv ct) :=
  ⟨⟨oc, od, .none, kV, doc, pm, an, cdv, ct, osl, rfl, l, c, .inl ⟨rfl, rfl⟩, .inl rfl⟩, k⟩
theorem funD_mkD {K : PySem.W.Frag} {x qual : Str} {st : Stmt} {f T : Addr} {oc : Value} {od an : Option Addr} {osl : Array (Option Value)} {kV doc pm cdv ct : Value} {dvs : List V} {its : List Value} {o : Obj} {n : Nat} (l : K.lookup f = some ⟨oc, od, .func (PySem.W.fnOf x qual (defArgs st) (defBody st) (defScope st) (.ref T) kV doc pm an cdv ct), osl⟩)
    (c : PySem.W.codeIn K cdv qual = true) (k : PySem.W.keepIn K (.ref f) = true) (hd : dvs ≠ []) (lT : K.lookup T = some o) (ho : o.data = .seq its.toArray n) (r : Vals dvs its) : FunD K x qual (defArgs st) (defBody st) (defScope st) dvs [] f (PySem.W.fnOf x qual (defArgs st) (defBody st) (defScope st) (.ref T) kV doc pm an cdv ct) :=
  ⟨⟨oc, od, .ref T, kV, doc, pm, an, cdv, ct, osl, rfl, l, c, .inr ⟨hd, T, o, its, n, rfl, lT, ho, r⟩, .inl rfl⟩, k⟩
end FP
/-! Core12: running the plain functions by simp: each combinator at a place, what comes behind it as a named function (so that nothing is run before its turn). -/
namespace FP
open PySem PySem.Spec L2 PySem.W
open PyProof.Rows hiding St

section
variable (η : Env') (μ : Mem) (a b c m ma mb mk : MV) (ms : ML) (p q : MB) (mo mo2 : MO) (mi : MI) (x y : FP.D) (ds : List FP.D) (i j n : Nat) (ω : List Nat)

@[simp] theorem x_c (d : FP.D) : mC d η μ = .ok d μ := (Eq.refl _).trans (Eq.refl _)
@[simp] theorem x_var : mVar i η μ = (match η[i]? with | some (some d) => .ok d μ | _ => .stuck) := (Eq.refl _).trans (Eq.refl _)
@[simp] theorem x_nil : aNil η μ = .ok [] μ := (Eq.refl _).trans (Eq.refl _)
def kCons2 (d : FP.D) : List FP.D → Mem → R (List FP.D) := fun ds μ => .ok (d :: ds) μ
@[simp] theorem xk_cons2 (d : FP.D) : kCons2 d ds μ = .ok (d :: ds) μ := (Eq.refl _).trans (Eq.refl _)
def kCons1 (ms : ML) (η : Env') : FP.D → Mem → R (List FP.D) := fun d μ => (ms η μ).bind (kCons2 d)
@[simp] theorem xk_cons1 : kCons1 ms η x μ = (ms η μ).bind (kCons2 x) := (Eq.refl _).trans (Eq.refl _)
@[simp] theorem x_cons : aCons m ms η μ = (m η μ).bind (kCons1 ms η) := (Eq.refl _).trans (Eq.refl _)
def kOp1 (f : FP.D → FP.D → Mem → R FP.D) (b : MV) (η : Env') : FP.D → Mem → R FP.D := fun x μ => (b η μ).bind (f x)
@[simp] theorem xk_op1 (f : FP.D → FP.D → Mem → R FP.D) : kOp1 f b η x μ = (b η μ).bind (f x) := (Eq.refl _).trans (Eq.refl _)
@[simp] theorem x_op (f : FP.D → FP.D → Mem → R FP.D) : mOp f a b η μ = (a η μ).bind (kOp1 f b η) := (Eq.refl _).trans (Eq.refl _)
def kTup  : List FP.D → Mem → R FP.D := fun ds μ => if ds.length ≤ 10000000 then .ok (.tup ds) μ else .stuck
@[simp] theorem xk_Tup : kTup ds μ = (if ds.length ≤ 10000000 then .ok (.tup ds) μ else .stuck) := (Eq.refl _).trans (Eq.refl _)
@[simp] theorem x_Tup : mTup ms η μ = (ms η μ).bind kTup := (Eq.refl _).trans (Eq.refl _)
def kLst  : List FP.D → Mem → R FP.D := fun ds μ => if ds.length ≤ 10000000 then .ok (.lst ds) μ else .stuck
@[simp] theorem xk_Lst : kLst ds μ = (if ds.length ≤ 10000000 then .ok (.lst ds) μ else .stuck) := (Eq.refl _).trans (Eq.refl _)
@[simp] theorem x_Lst : mLst ms η μ = (ms η μ).bind kLst := (Eq.refl _).trans (Eq.refl _)
def kTupP  : List FP.D → Mem → R FP.D := fun ds μ => if ds.length ≤ 10000000 then .ok (.ptu ds) μ else .stuck
@[simp] theorem xk_TupP : kTupP ds μ = (if ds.length ≤ 10000000 then .ok (.ptu ds) μ else .stuck) := (Eq.refl _).trans (Eq.refl _)
@[simp] theorem x_TupP : mTupP ms η μ = (ms η μ).bind kTupP := (Eq.refl _).trans (Eq.refl _)
def kSl2 (f : FP.D → Option Int → Option Int → Mem → R FP.D) (o : FP.D) (l : Option Int) : Option Int → Mem → R FP.D := fun h μ => f o l h μ
@[simp] theorem xk_sl2 (f : FP.D → Option Int → Option Int → Mem → R FP.D) (o : FP.D) (l h : Option Int) : kSl2 f o l h μ = f o l h μ := (Eq.refl _).trans (Eq.refl _)
def kSl1 (f : FP.D → Option Int → Option Int → Mem → R FP.D) (o : FP.D) (hi : MO) (η : Env') : Option Int → Mem → R FP.D := fun l μ => (hi η μ).bind (kSl2 f o l)
@[simp] theorem xk_sl1 (f : FP.D → Option Int → Option Int → Mem → R FP.D) (o : FP.D) (l : Option Int) : kSl1 f o mo2 η l μ = (mo2 η μ).bind (kSl2 f o l) := (Eq.refl _).trans (Eq.refl _)
def kSl0 (f : FP.D → Option Int → Option Int → Mem → R FP.D) (lo hi : MO) (η : Env') : FP.D → Mem → R FP.D := fun o μ => (lo η μ).bind (kSl1 f o hi η)
@[simp] theorem xk_sl0 (f : FP.D → Option Int → Option Int → Mem → R FP.D) : kSl0 f mo mo2 η x μ = (mo η μ).bind (kSl1 f x mo2 η) := (Eq.refl _).trans (Eq.refl _)
@[simp] theorem x_sl : mSl a mo mo2 η μ = (a η μ).bind (kSl0 fSl mo mo2 η) := (Eq.refl _).trans (Eq.refl _)
@[simp] theorem x_slP : mSlP a mo mo2 η μ = (a η μ).bind (kSl0 fSlP mo mo2 η) := (Eq.refl _).trans (Eq.refl _)
@[simp] theorem x_oNone : oNone η μ = .ok none μ := (Eq.refl _).trans (Eq.refl _)
def kSome : FP.D → Mem → R (Option Int) := fun d μ1 => match d with
  | .int i => .ok (some i) μ1
  | _ => .stuck
@[simp] theorem xk_some (z : Int) : kSome (.int z) μ = .ok (some z) μ := (Eq.refl _).trans (Eq.refl _)
@[simp] theorem x_oSome : oSome m η μ = (m η μ).bind kSome := (Eq.refl _).trans (Eq.refl _)
def kIf (a b : MV) (η : Env') : Bool → Mem → R FP.D := fun x μ => if x = true then a η μ else b η μ
@[simp] theorem xk_if_t : kIf a b η true μ = a η μ := (Eq.refl _).trans (Eq.refl _)
@[simp] theorem xk_if_f : kIf a b η false μ = b η μ := (Eq.refl _).trans (Eq.refl _)
@[simp] theorem x_if : mIf p a b η μ = (p η μ).bind (kIf a b η) := (Eq.refl _).trans (Eq.refl _)
def kAnd (b : MV) (η : Env') : FP.D → Mem → R FP.D := fun d μ1 => match d with
  | .bl true => b η μ1
  | .bl false => .ok (.bl false) μ1
  | _ => .stuck
@[simp] theorem xk_and_t : kAnd b η (.bl true) μ = b η μ := (Eq.refl _).trans (Eq.refl _)
@[simp] theorem xk_and_f : kAnd b η (.bl false) μ = .ok (.bl false) μ := (Eq.refl _).trans (Eq.refl _)
@[simp] theorem x_and : mAnd a b η μ = (a η μ).bind (kAnd b η) := (Eq.refl _).trans (Eq.refl _)
def kOr (b : MV) (η : Env') : FP.D → Mem → R FP.D := fun d μ1 => match d with
  | .bl false => b η μ1
  | .bl true => .ok (.bl true) μ1
  | _ => .stuck
@[simp] theorem xk_or_f : kOr b η (.bl false) μ = b η μ := (Eq.refl _).trans (Eq.refl _)
@[simp] theorem xk_or_t : kOr b η (.bl true) μ = .ok (.bl true) μ := (Eq.refl _).trans (Eq.refl _)
@[simp] theorem x_or : mOr a b η μ = (a η μ).bind (kOr b η) := (Eq.refl _).trans (Eq.refl _)
def kNot : FP.D → Mem → R FP.D := fun d μ1 => match d with
  | .bl b => .ok (.bl (!b)) μ1
  | _ => .stuck
@[simp] theorem xk_not (z : Bool) : kNot (.bl z) μ = .ok (.bl (!z)) μ := (Eq.refl _).trans (Eq.refl _)
@[simp] theorem x_not : mNot a η μ = (a η μ).bind kNot := (Eq.refl _).trans (Eq.refl _)
def kNeg : FP.D → Mem → R FP.D := fun d μ1 => match d with
  | .int i => .ok (.int (-i)) μ1
  | _ => .stuck
@[simp] theorem xk_neg (z : Int) : kNeg (.int z) μ = .ok (.int (-z)) μ := (Eq.refl _).trans (Eq.refl _)
@[simp] theorem x_neg : mNeg a η μ = (a η μ).bind kNeg := (Eq.refl _).trans (Eq.refl _)
def kCh3 (g : FP.D → FP.D → Mem → R FP.D) (y : FP.D) (c : MV) (η : Env') : FP.D → Mem → R FP.D := fun z μ3 => match z with
  | .bl true => (c η μ3).bind (g y)
  | .bl false => .ok (.bl false) μ3
  | _ => .stuck
@[simp] theorem xk_ch3_t (g : FP.D → FP.D → Mem → R FP.D) : kCh3 g y c η (.bl true) μ = (c η μ).bind (g y) := (Eq.refl _).trans (Eq.refl _)
@[simp] theorem xk_ch3_f (g : FP.D → FP.D → Mem → R FP.D) : kCh3 g y c η (.bl false) μ = .ok (.bl false) μ := (Eq.refl _).trans (Eq.refl _)
def kCh2 (f g : FP.D → FP.D → Mem → R FP.D) (x : FP.D) (c : MV) (η : Env') : FP.D → Mem → R FP.D := fun y μ => (f x y μ).bind (kCh3 g y c η)
@[simp] theorem xk_ch2 (f g : FP.D → FP.D → Mem → R FP.D) : kCh2 f g x c η y μ = (f x y μ).bind (kCh3 g y c η) := (Eq.refl _).trans (Eq.refl _)
def kCh1 (f g : FP.D → FP.D → Mem → R FP.D) (b c : MV) (η : Env') : FP.D → Mem → R FP.D := fun x μ => (b η μ).bind (kCh2 f g x c η)
@[simp] theorem xk_ch1 (f g : FP.D → FP.D → Mem → R FP.D) : kCh1 f g b c η x μ = (b η μ).bind (kCh2 f g x c η) := (Eq.refl _).trans (Eq.refl _)
@[simp] theorem x_chain (f g : FP.D → FP.D → Mem → R FP.D) : mChain f g a b c η μ = (a η μ).bind (kCh1 f g b c η) := (Eq.refl _).trans (Eq.refl _)
@[simp] theorem x_call (f : List FP.D → Mem → R FP.D) : mCall f ms η μ = (ms η μ).bind f := (Eq.refl _).trans (Eq.refl _)
def kIsi (t : Ty) : FP.D → Mem → R FP.D := fun d μ1 => match tyD μ1 d with
  | some u => .ok (.bl (isi u t)) μ1
  | none => .stuck
@[simp] theorem xk_isi (t : Ty) : kIsi t x μ = (match tyD μ x with | some u => .ok (.bl (isi u t)) μ | none => .stuck) := (Eq.refl _).trans (Eq.refl _)
@[simp] theorem x_isi (t : Ty) : mIsi m t η μ = (m η μ).bind (kIsi t) := (Eq.refl _).trans (Eq.refl _)
def kFn (F : FN) (n : Nat) (dds : List FP.D) : List FP.D → Mem → R FP.D := fun ds μ1 => if ds.length + dds.length = n then F (ds ++ dds) μ1 else .stuck
@[simp] theorem xk_fn (F : FN) (dds : List FP.D) : kFn F n dds ds μ = (if ds.length + dds.length = n then F (ds ++ dds) μ else .stuck) := (Eq.refl _).trans (Eq.refl _)
@[simp] theorem x_fn (F : FN) (dds : List FP.D) : mFn F n dds ms η μ = (ms η μ).bind (kFn F n dds) := (Eq.refl _).trans (Eq.refl _)
def kM1 (f : Str → FP.D → Mem → R FP.D) (me : MV) (η : Env') : FP.D → Mem → R FP.D := fun o μ1 => match o with
  | .str a => (me η μ1).bind (f a)
  | _ => .stuck
@[simp] theorem xk_m1 (f : Str → FP.D → Mem → R FP.D) (s : Str) : kM1 f m η (.str s) μ = (m η μ).bind (f s) := (Eq.refl _).trans (Eq.refl _)
@[simp] theorem x_m1 (f : Str → FP.D → Mem → R FP.D) : mM1 f a m η μ = (a η μ).bind (kM1 f m η) := (Eq.refl _).trans (Eq.refl _)
def kLc (g : Tg) (tst : MB) (elt : MV) (η : Env') : List FP.D → Mem → R FP.D := fun ds μ => lcLoop g tst elt η ds [] μ
@[simp] theorem xk_lc (g : Tg) : kLc g p m η ds μ = lcLoop g p m η ds [] μ := (Eq.refl _).trans (Eq.refl _)
@[simp] theorem x_lc (g : Tg) (vs : List Nat) : mLc mi g vs p m η μ = (mi η μ).bind (kLc g p m (wipeD η vs)) := (Eq.refl _).trans (Eq.refl _)
def kTst : FP.D → Mem → R Bool := fun d μ1 => match d with
  | .bl b => .ok b μ1
  | _ => .stuck
@[simp] theorem xk_tst (z : Bool) : kTst (.bl z) μ = .ok z μ := (Eq.refl _).trans (Eq.refl _)
@[simp] theorem x_tst : mTst m η μ = (m η μ).bind kTst := (Eq.refl _).trans (Eq.refl _)
def kBAnd (b : MB) (η : Env') : Bool → Mem → R Bool := fun x μ1 => if x = true then b η μ1 else .ok false μ1
@[simp] theorem xk_band_t : kBAnd q η true μ = q η μ := (Eq.refl _).trans (Eq.refl _)
@[simp] theorem xk_band_f : kBAnd q η false μ = .ok false μ := (Eq.refl _).trans (Eq.refl _)
@[simp] theorem x_band : bAnd p q η μ = (p η μ).bind (kBAnd q η) := (Eq.refl _).trans (Eq.refl _)
def kBOr (b : MB) (η : Env') : Bool → Mem → R Bool := fun x μ1 => if x = true then .ok true μ1 else b η μ1
@[simp] theorem xk_bor_t : kBOr q η true μ = .ok true μ := (Eq.refl _).trans (Eq.refl _)
@[simp] theorem xk_bor_f : kBOr q η false μ = q η μ := (Eq.refl _).trans (Eq.refl _)
@[simp] theorem x_bor : bOr p q η μ = (p η μ).bind (kBOr q η) := (Eq.refl _).trans (Eq.refl _)
def kBNot : Bool → Mem → R Bool := fun x μ1 => .ok (!x) μ1
@[simp] theorem xk_bnot (z : Bool) : kBNot z μ = .ok (!z) μ := (Eq.refl _).trans (Eq.refl _)
@[simp] theorem x_bnot : bNot p η μ = (p η μ).bind kBNot := (Eq.refl _).trans (Eq.refl _)
@[simp] theorem x_btrue : bTrue η μ = .ok true μ := (Eq.refl _).trans (Eq.refl _)
def kChk (f : FP.D → Bool) : FP.D → Mem → R FP.D := fun d μ1 => if f d = true then .ok d μ1 else .stuck
@[simp] theorem xk_chk (f : FP.D → Bool) : kChk f x μ = (if f x = true then .ok x μ else .stuck) := (Eq.refl _).trans (Eq.refl _)
@[simp] theorem x_chk (f : FP.D → Bool) : mChk f m η μ = (m η μ).bind (kChk f) := (Eq.refl _).trans (Eq.refl _)
def kOf : FP.D → Mem → R (List FP.D) := fun d μ1 => match itemsD d with
  | some l => .ok l μ1
  | none => .stuck
@[simp] theorem xk_of : kOf x μ = (match itemsD x with | some l => .ok l μ | none => .stuck) := (Eq.refl _).trans (Eq.refl _)
@[simp] theorem x_of : iOf m η μ = (m η μ).bind kOf := (Eq.refl _).trans (Eq.refl _)
def kOfN : FP.D → Mem → R (List FP.D) := fun d μ1 => match itemsN d with
  | some l => .ok l μ1
  | none => .stuck
@[simp] theorem xk_ofN : kOfN x μ = (match itemsN x with | some l => .ok l μ | none => .stuck) := (Eq.refl _).trans (Eq.refl _)
@[simp] theorem x_ofN : iOfN m η μ = (m η μ).bind kOfN := (Eq.refl _).trans (Eq.refl _)
@[simp] theorem x_ofL : iOfL m η μ = (m η μ).bind kOf := (Eq.refl _).trans (Eq.refl _)
def kRng1 : List FP.D → Mem → R (List FP.D) := fun ds μ1 => match ds with
  | [.int j] => if (decide (-(2 ^ 62) ≤ j) && decide (j < 2 ^ 62)) = true then .ok ((List.range j.toNat).map fun i => .int (0 + (i : Nat))) μ1 else .stuck
  | _ => .stuck
@[simp] theorem xk_rng1 (z : Int) : kRng1 [.int z] μ = (if (decide (-(2 ^ 62) ≤ z) && decide (z < 2 ^ 62)) = true then .ok ((List.range z.toNat).map fun i => .int (0 + (i : Nat))) μ else .stuck) := (Eq.refl _).trans (Eq.refl _)
@[simp] theorem x_rng1 : iRange1 ms η μ = (ms η μ).bind kRng1 := (Eq.refl _).trans (Eq.refl _)
def kRng2 : List FP.D → Mem → R (List FP.D) := fun ds μ1 => match ds with
  | [.int i, .int j] => if (decide (-(2 ^ 62) ≤ i) && decide (i < 2 ^ 62) && decide (-(2 ^ 62) ≤ j) && decide (j < 2 ^ 62)) = true then .ok ((List.range (j - i).toNat).map fun k => .int (i + (k : Nat))) μ1 else .stuck
  | _ => .stuck
@[simp] theorem xk_rng2 (z w : Int) : kRng2 [.int z, .int w] μ = (if (decide (-(2 ^ 62) ≤ z) && decide (z < 2 ^ 62) && decide (-(2 ^ 62) ≤ w) && decide (w < 2 ^ 62)) = true then .ok ((List.range (w - z).toNat).map fun k => .int (z + (k : Nat))) μ else .stuck) := (Eq.refl _).trans (Eq.refl _)
@[simp] theorem x_rng2 : iRange2 ms η μ = (ms η μ).bind kRng2 := (Eq.refl _).trans (Eq.refl _)
end
section
variable (η : Env') (μ : Mem) (a b c m ma mb mk : MV) (ms : ML) (p q : MB) (mi : MI) (x y : FP.D) (ds : List FP.D) (i j n : Nat) (ω : List Nat) (s t body : MS)
@[simp] theorem lift_ok {α : Type} (v : α) (g : α → Mem → RS) : liftR (.ok v μ) η g = g v μ := (Eq.refl _).trans (Eq.refl _)
@[simp] theorem lift_exc {α : Type} (e : Exn) (g : α → Mem → RS) : liftR (.exc e μ) η g = .exc e η μ := (Eq.refl _).trans (Eq.refl _)
@[simp] theorem lift_stuck {α : Type} (g : α → Mem → RS) : liftR .stuck η g = .stuck := (Eq.refl _).trans (Eq.refl _)
@[simp] theorem y_nx : RS.bind (.nx η μ) s = s η μ := (Eq.refl _).trans (Eq.refl _)
@[simp] theorem y_rt : RS.bind (.rt x μ) s = .rt x μ := (Eq.refl _).trans (Eq.refl _)
@[simp] theorem y_bk : RS.bind (.bk η μ) s = .bk η μ := (Eq.refl _).trans (Eq.refl _)
@[simp] theorem y_ct : RS.bind (.ct η μ) s = .ct η μ := (Eq.refl _).trans (Eq.refl _)
@[simp] theorem y_exc (e : Exn) : RS.bind (.exc e η μ) s = .exc e η μ := (Eq.refl _).trans (Eq.refl _)
@[simp] theorem x_seq : sSeq s t η μ = (s η μ).bind t := (Eq.refl _).trans (Eq.refl _)
@[simp] theorem x_next : sNext η μ = .nx η μ := (Eq.refl _).trans (Eq.refl _)
@[simp] theorem x_retN : sRetN η μ = .rt .non μ := (Eq.refl _).trans (Eq.refl _)
@[simp] theorem x_break : sBreak η μ = .bk η μ := (Eq.refl _).trans (Eq.refl _)
@[simp] theorem x_cont : sCont η μ = .ct η μ := (Eq.refl _).trans (Eq.refl _)
def kSIf (s t : MS) (η : Env') : Bool → Mem → RS := fun x μ => if x = true then s η μ else t η μ
@[simp] theorem xk_sif_t : kSIf s t η true μ = s η μ := (Eq.refl _).trans (Eq.refl _)
@[simp] theorem xk_sif_f : kSIf s t η false μ = t η μ := (Eq.refl _).trans (Eq.refl _)
@[simp] theorem x_sif : sIf p s t η μ = liftR (p η μ) η (kSIf s t η) := (Eq.refl _).trans (Eq.refl _)
def kSet (ω : List Nat) (i : Nat) (η : Env') : FP.D → Mem → RS := fun d μ1 => if (ω.isEmpty || noL d) = true then .nx (η.set i (some d)) μ1 else .stuck
@[simp] theorem xk_set : kSet ω i η x μ = (if (ω.isEmpty || noL x) = true then .nx (η.set i (some x)) μ else .stuck) := (Eq.refl _).trans (Eq.refl _)
@[simp] theorem x_set : sSet ω i m η μ = liftR (m η μ) η (kSet ω i η) := (Eq.refl _).trans (Eq.refl _)
def kRet (f : FP.D → Bool) : FP.D → Mem → RS := fun d μ1 => if f d = true then .rt d μ1 else .stuck
@[simp] theorem xk_ret (f : FP.D → Bool) : kRet f x μ = (if f x = true then .rt x μ else .stuck) := (Eq.refl _).trans (Eq.refl _)
@[simp] theorem x_ret : sRet m η μ = liftR (m η μ) η (kRet noL) := (Eq.refl _).trans (Eq.refl _)
@[simp] theorem x_retF : sRetF m η μ = liftR (m η μ) η (kRet retOk) := (Eq.refl _).trans (Eq.refl _)
def kDrop (η : Env') : FP.D → Mem → RS := fun _ μ1 => .nx η μ1
@[simp] theorem xk_drop : kDrop η x μ = .nx η μ := (Eq.refl _).trans (Eq.refl _)
@[simp] theorem x_drop : sDrop m η μ = liftR (m η μ) η (kDrop η) := (Eq.refl _).trans (Eq.refl _)
def kOwn (i : Nat) (η : Env') : FP.D → Mem → RS := fun d μ1 => match d with
  | .lst l => if noLs l = true then .nx (η.set i (some (.lst l))) μ1 else .stuck
  | _ => .stuck
@[simp] theorem xk_own : kOwn i η (.lst ds) μ = (if noLs ds = true then .nx (η.set i (some (.lst ds))) μ else .stuck) := (Eq.refl _).trans (Eq.refl _)
@[simp] theorem x_own : sOwn i m η μ = liftR (m η μ) η (kOwn i η) := (Eq.refl _).trans (Eq.refl _)
@[simp] theorem x_ownD : sOwnD i η μ = .nx (η.set i (some (.dic [] []))) μ := (Eq.refl _).trans (Eq.refl _)
@[simp] theorem x_retOwn : sRetOwn ω i η μ = (if i ∈ ω then (match η[i]? with | some (some d) => .rt d μ | _ => .stuck) else .stuck) := (Eq.refl _).trans (Eq.refl _)
def kAppend (i : Nat) (l : List FP.D) (η : Env') : FP.D → Mem → RS := fun d μ1 => if (noL d && decide (l.length < 10000000)) = true then .nx (η.set i (some (.lst (l ++ [d])))) μ1 else .stuck
@[simp] theorem xk_append : kAppend i ds η x μ = (if (noL x && decide (ds.length < 10000000)) = true then .nx (η.set i (some (.lst (ds ++ [x])))) μ else .stuck) := (Eq.refl _).trans (Eq.refl _)
@[simp] theorem x_append : sAppend ω i m η μ = (if i ∈ ω then (match η[i]? with | some (some (.lst l)) => liftR (m η μ) η (kAppend i l η) | _ => .stuck) else .stuck) := (Eq.refl _).trans (Eq.refl _)
def kDSet2 (i : Nat) (ks : List Key) (es : List FP.D) (d : FP.D) (η : Env') : FP.D → Mem → RS := fun kd μ2 => match keyD kd with
  | some k => if (noL d && decide (ks.length < 10000000)) = true then .nx (η.set i (some (.dic (dputK ks k) (dputV ks es k d)))) μ2 else .stuck
  | none => .stuck
@[simp] theorem xk_dset2 (ks : List Key) : kDSet2 i ks ds x η y μ = (match keyD y with | some k => (if (noL x && decide (ks.length < 10000000)) = true then .nx (η.set i (some (.dic (dputK ks k) (dputV ks ds k x)))) μ else .stuck) | none => .stuck) := (Eq.refl _).trans (Eq.refl _)
def kDSet1 (i : Nat) (ks : List Key) (es : List FP.D) (mk : MV) (η : Env') : FP.D → Mem → RS := fun d μ1 => liftR (mk η μ1) η (kDSet2 i ks es d η)
@[simp] theorem xk_dset1 (ks : List Key) : kDSet1 i ks ds mk η x μ = liftR (mk η μ) η (kDSet2 i ks ds x η) := (Eq.refl _).trans (Eq.refl _)
@[simp] theorem x_dset : sDSet ω i mk m η μ = (if i ∈ ω then (match η[i]? with | some (some (.dic ks es)) => liftR (m η μ) η (kDSet1 i ks es mk η) | _ => .stuck) else .stuck) := (Eq.refl _).trans (Eq.refl _)
def kCell (i : Nat) (η : Env') : List FP.D → Mem → RS := fun ds μ1 => if decide (ds.length ≤ 10000000) = true then .nx (η.set i (some (.ptr μ1.length))) (μ1 ++ [.lst ds]) else .stuck
@[simp] theorem xk_cell : kCell i η ds μ = (if decide (ds.length ≤ 10000000) = true then .nx (η.set i (some (.ptr μ.length))) (μ ++ [.lst ds]) else .stuck) := (Eq.refl _).trans (Eq.refl _)
@[simp] theorem x_cell : sCell i ms η μ = liftR (ms η μ) η (kCell i η) := (Eq.refl _).trans (Eq.refl _)
def kCS2 (c : Nat) (d : FP.D) (η : Env') : FP.D → Mem → RS := fun kd μ2 => match kd with
  | .int j => match μ2[c]? with
    | some (.lst l) => match (if noL d = true then setAt l j d else none) with
      | some l' => .nx η (μ2.set c (.lst l'))
      | none => .stuck
    | _ => .stuck
  | _ => .stuck
@[simp] theorem xk_cs2 (z : Int) : kCS2 n x η (.int z) μ = (match μ[n]? with | some (.lst l) => (match (if noL x = true then setAt l z x else none) with | some l' => .nx η (μ.set n (.lst l')) | none => .stuck) | _ => .stuck) := (Eq.refl _).trans (Eq.refl _)
def kCS1 (i : Nat) (mk : MV) (η : Env') : FP.D → Mem → RS := fun d μ1 => match η[i]? with
  | some (some (.ptr c)) => liftR (mk η μ1) η (kCS2 c d η)
  | _ => .stuck
@[simp] theorem xk_cs1 : kCS1 i mk η x μ = (match η[i]? with | some (some (.ptr c)) => liftR (mk η μ) η (kCS2 c x η) | _ => .stuck) := (Eq.refl _).trans (Eq.refl _)
@[simp] theorem x_cellSet : sCellSet i mk m η μ = liftR (m η μ) η (kCS1 i mk η) := (Eq.refl _).trans (Eq.refl _)
def kAsg (ω : List Nat) (g : Tg) (η : Env') : FP.D → Mem → RS := fun d μ1 => if (tgOk ω g && (ω.isEmpty || noL d)) = true then match bindT g d η with
  | some η1 => .nx η1 μ1
  | none => .stuck else .stuck
@[simp] theorem xk_asg (g : Tg) : kAsg ω g η x μ = (if (tgOk ω g && (ω.isEmpty || noL x)) = true then (match bindT g x η with | some η1 => .nx η1 μ | none => .stuck) else .stuck) := (Eq.refl _).trans (Eq.refl _)
@[simp] theorem x_asg (g : Tg) : sAsg ω g m η μ = liftR (m η μ) η (kAsg ω g η) := (Eq.refl _).trans (Eq.refl _)
def kPar2 (ω : List Nat) (i j : Nat) (a : FP.D) (η : Env') : FP.D → Mem → RS := fun b μ2 => if (!ω.contains i && !ω.contains j && (ω.isEmpty || (noL a && noL b))) = true then .nx ((η.set i (some a)).set j (some b)) μ2 else .stuck
@[simp] theorem xk_par2 : kPar2 ω i j x η y μ = (if (!ω.contains i && !ω.contains j && (ω.isEmpty || (noL x && noL y))) = true then .nx ((η.set i (some x)).set j (some y)) μ else .stuck) := (Eq.refl _).trans (Eq.refl _)
def kPar1 (ω : List Nat) (i j : Nat) (mb : MV) (η : Env') : FP.D → Mem → RS := fun a μ1 => liftR (mb η μ1) η (kPar2 ω i j a η)
@[simp] theorem xk_par1 : kPar1 ω i j mb η x μ = liftR (mb η μ) η (kPar2 ω i j x η) := (Eq.refl _).trans (Eq.refl _)
@[simp] theorem x_par : sPar ω i j ma mb η μ = liftR (ma η μ) η (kPar1 ω i j mb η) := (Eq.refl _).trans (Eq.refl _)
def kFor (ω : List Nat) (g : Tg) (body : MS) (η : Env') : List FP.D → Mem → RS := fun ds μ1 => if (tgOk ω g && (ω.isEmpty || noLs ds)) = true then forLoop g body ds η μ1 else .stuck
@[simp] theorem xk_for (g : Tg) : kFor ω g body η ds μ = (if (tgOk ω g && (ω.isEmpty || noLs ds)) = true then forLoop g body ds η μ else .stuck) := (Eq.refl _).trans (Eq.refl _)
@[simp] theorem x_for (g : Tg) : sFor ω g mi body η μ = liftR (mi η μ) η (kFor ω g body η) := (Eq.refl _).trans (Eq.refl _)
def kRun : RS → R FP.D
  | .nx _ μ' => .ok .non μ'
  | .rt d μ' => .ok d μ'
  | .exc x _ μ' => .exc x μ'
  | _ => .stuck
@[simp] theorem kRun_nx : kRun (.nx η μ) = .ok .non μ := (Eq.refl _).trans (Eq.refl _)
@[simp] theorem kRun_rt : kRun (.rt x μ) = .ok x μ := (Eq.refl _).trans (Eq.refl _)
@[simp] theorem kRun_exc (e : Exn) : kRun (.exc e η μ) = .exc e μ := (Eq.refl _).trans (Eq.refl _)
theorem run_is (B : MS) : runF n B ds μ = kRun (B (startD n ds) μ) := by
  unfold runF kRun
  cases B (startD n ds) μ <;> rfl
end
@[simp] theorem lc_nil (g : Tg) (t : MB) (e : MV) (η : Env') (acc : List FP.D) (μ : Mem) : lcLoop g t e η [] acc μ = .ok (.lst acc) μ := (Eq.refl _).trans (Eq.refl _)
@[simp] theorem for_nil (g : Tg) (b : MS) (η : Env') (μ : Mem) : forLoop g b [] η μ = .nx η μ := (Eq.refl _).trans (Eq.refl _)

end FP
/-! Core13: the draw. -/
namespace FP
open PySem PySem.Spec L2 PySem.W
open PyProof.Rows hiding St

/-- def _law_next(tape, many) -/
def B_next : MS :=
    (sSeq (sSet [] 2 (mOp fIxA (mVar 0) (mC (D.int 2))))
    (sSeq (sIf (mTst (mOp fEq (mVar 2) (mC (D.int 0)))) (sSeq (sSet [] 3 (mC (D.int 0)))
    (sSeq (sIf (mTst (mOp fLt (mOp fIxA (mVar 0) (mC (D.int 1))) (mCall fLen (aCons (mOp fIxA (mVar 0) (mC (D.int 0))) aNil)))) (sSeq (sSet [] 3 (mCall fAbs (aCons (mCall fInt (aCons (mOp fIxA (mOp fIxA (mVar 0) (mC (D.int 0))) (mOp fIxA (mVar 0) (mC (D.int 1)))) aNil)) aNil)))
    (sCellSet 0 (mC (D.int 1)) (mOp fAdd (mOp fIxA (mVar 0) (mC (D.int 1))) (mC (D.int 1))))) sNext)
    (sSeq (sSet [] 2 (mVar 3))
    (sIf (mTst (mOp fLt (mVar 3) (mOp fPow (mC (D.int 10)) (mC (D.int 18))))) (sSeq (sCellSet 0 (mC (D.int 3)) (mOp fMod (mCall fInt (aCons (mOp fAdd (mOp fAdd (mOp fMulA (mOp fIxA (mVar 0) (mC (D.int 3))) (mC (D.int 69621))) (mOp fMulA (mVar 3) (mC (D.int 40692)))) (mC (D.int 17))) aNil)) (mC (D.int 2147483647))))
    (sRet (mOp fMod (mOp fMod (mCall fInt (aCons (mOp fMulA (mCall fInt (aCons (mOp fDiv (mOp fIxA (mVar 0) (mC (D.int 3))) (mC (D.int 5))) aNil)) (mC (D.int 48271))) aNil)) (mC (D.int 2147483647))) (mVar 1)))) sNext)))) sNext)
    (sSeq (sCellSet 0 (mC (D.int 2)) (mOp fDiv (mVar 2) (mVar 1)))
    (sRet (mOp fMod (mCall fInt (aCons (mVar 2) aNil)) (mVar 1))))))
/-- the tape -/
def tp (l : List D) (i r s : Int) : Mem := [.lst [.lst l, .int i, .int r, .int s]]
structure Drawn (ns : List Int) (many : Int) (r : R D) : Prop where
  ex : ∃ v i' r' s', r = .ok (.int v) (tp (ns.map .int) i' r' s') ∧ 0 ≤ v ∧ v < many ∧ 0 ≤ i'
@[simp] theorem eq_int (i j : Int) (μ : Mem) : fEq (.int i) (.int j) μ = .ok (.bl (decide (i = j))) μ := by
  simp [fEq, eqD, scalD, eqS, Bool.beq_eq_decide_eq]
@[simp] theorem lt_int (i j : Int) (μ : Mem) : fLt (.int i) (.int j) μ = .ok (.bl (decide (i < j))) μ := (Eq.refl _).trans (Eq.refl _)
@[simp] theorem le_int (i j : Int) (μ : Mem) : fLe (.int i) (.int j) μ = .ok (.bl (decide (i ≤ j))) μ := (Eq.refl _).trans (Eq.refl _)
@[simp] theorem gt_int (i j : Int) (μ : Mem) : fGt (.int i) (.int j) μ = .ok (.bl (decide (j < i))) μ := (Eq.refl _).trans (Eq.refl _)
@[simp] theorem ge_int (i j : Int) (μ : Mem) : fGe (.int i) (.int j) μ = .ok (.bl (decide (j ≤ i))) μ := (Eq.refl _).trans (Eq.refl _)
@[simp] theorem add_int (i j : Int) (μ : Mem) : fAdd (.int i) (.int j) μ = .ok (.int (i + j)) μ := (Eq.refl _).trans (Eq.refl _)
@[simp] theorem sub_int (i j : Int) (μ : Mem) : fSub (.int i) (.int j) μ = .ok (.int (i - j)) μ := (Eq.refl _).trans (Eq.refl _)
@[simp] theorem int_int (i : Int) (μ : Mem) : fInt [.int i] μ = .ok (.int i) μ := (Eq.refl _).trans (Eq.refl _)
@[simp] theorem abs_int (i : Int) (μ : Mem) : fAbs [.int i] μ = .ok (.int (if i < 0 then -i else i)) μ := (Eq.refl _).trans (Eq.refl _)
theorem mul_k {i j : Int} (hj : -(2 ^ 64) < j ∧ j < 2 ^ 64) (μ : Mem) : fMulA (.int i) (.int j) μ = .ok (.int (i * j)) μ := by
  show (if mulOk i j = true then _ else _) = _
  rw [if_pos]
  unfold mulOk
  simp only [Bool.or_eq_true, Bool.and_eq_true, decide_eq_true_eq]
  exact .inr hj
theorem div_k {i j : Int} (h1 : 0 < j) (h2 : j < 1073741824) (μ : Mem) : fDiv (.int i) (.int j) μ = .ok (.int (i / j)) μ := by
  show (if (decide (0 < j) && decide (j < 1073741824)) = true then _ else _) = _
  rw [if_pos]
  simp [h1, h2]
theorem mod_k {i j : Int} (h1 : 0 < j) (μ : Mem) : fMod (.int i) (.int j) μ = .ok (.int (i % j)) μ := by
  show (if decide (0 < j) = true then _ else _) = _
  rw [if_pos]
  simp [h1]
theorem pow_18 (μ : Mem) : fPow (.int 10) (.int 18) μ = .ok (.int 1000000000000000000) μ := (Eq.refl _).trans (Eq.refl _)
theorem tp_ix0 (l : List D) (i r s : Int) : fIxA (.ptr 0) (.int 0) (tp l i r s) = .ok (.lst l) (tp l i r s) := (Eq.refl _).trans (Eq.refl _)
theorem tp_ix1 (l : List D) (i r s : Int) : fIxA (.ptr 0) (.int 1) (tp l i r s) = .ok (.int i) (tp l i r s) := (Eq.refl _).trans (Eq.refl _)
theorem tp_ix2 (l : List D) (i r s : Int) : fIxA (.ptr 0) (.int 2) (tp l i r s) = .ok (.int r) (tp l i r s) := (Eq.refl _).trans (Eq.refl _)
theorem tp_ix3 (l : List D) (i r s : Int) : fIxA (.ptr 0) (.int 3) (tp l i r s) = .ok (.int s) (tp l i r s) := (Eq.refl _).trans (Eq.refl _)
theorem tp_cs1 (η : Env') (l : List D) (i r s k : Int) : kCS2 0 (.int k) η (.int 1) (tp l i r s) = .nx η (tp l k r s) := (Eq.refl _).trans (Eq.refl _)
theorem tp_cs2 (η : Env') (l : List D) (i r s k : Int) : kCS2 0 (.int k) η (.int 2) (tp l i r s) = .nx η (tp l i k s) := (Eq.refl _).trans (Eq.refl _)
theorem tp_cs3 (η : Env') (l : List D) (i r s k : Int) : kCS2 0 (.int k) η (.int 3) (tp l i r s) = .nx η (tp l i r k) := (Eq.refl _).trans (Eq.refl _)
theorem len_lst (l : List D) (μ : Mem) : fLen [.lst l] μ = .ok (.int l.length) μ := (Eq.refl _).trans (Eq.refl _)
theorem ix_ints {ns : List Int} {i : Int} (h0 : 0 ≤ i) (h1 : i < ns.length) (μ : Mem) : fIxA (.lst (ns.map .int)) (.int i) μ = .ok (.int (ns.getD i.toNat 0)) μ := by
  have h : i.toNat < ns.length := by omega
  simp [fIxA, dicOf, fIx, aseq, lseq, atD, h0, h]
theorem next_ok {ns : List Int} {i r s many : Int} (hi : 0 ≤ i) (hm : 0 < many) (hm2 : many < 1073741824) : Drawn ns many (runF 4 B_next [.ptr 0, .int many] (tp (ns.map .int) i r s)) := by
  rw [run_is]
  have e48 : ∀ (z : Int) (μ : Mem), fMulA (.int z) (.int 69621) μ = .ok (.int (z * 69621)) μ := fun z μ => mul_k (by decide) μ
  have e49 : ∀ (z : Int) (μ : Mem), fMulA (.int z) (.int 40692) μ = .ok (.int (z * 40692)) μ := fun z μ => mul_k (by decide) μ
  have e50 : ∀ (z : Int) (μ : Mem), fMulA (.int z) (.int 48271) μ = .ok (.int (z * 48271)) μ := fun z μ => mul_k (by decide) μ
  have e51 : ∀ (z : Int) (μ : Mem), fDiv (.int z) (.int 5) μ = .ok (.int (z / 5)) μ := fun z μ => div_k (by decide) (by decide) μ
  have e52 : ∀ (z : Int) (μ : Mem), fMod (.int z) (.int 2147483647) μ = .ok (.int (z % 2147483647)) μ := fun z μ => mod_k (by decide) μ
  have e53 : ∀ (z : Int) (μ : Mem), fMod (.int z) (.int many) μ = .ok (.int (z % many)) μ := fun z μ => mod_k hm μ
  have e54 : ∀ (z : Int) (μ : Mem), fDiv (.int z) (.int many) μ = .ok (.int (z / many)) μ := fun z μ => div_k hm hm2 μ
  have nn : ∀ z : Int, 0 ≤ z % many ∧ z % many < many := fun z => ⟨Int.emod_nonneg _ (by omega), Int.emod_lt_of_pos _ hm⟩
  have dn : ∀ (z i' r' s' : Int), 0 ≤ i' → Drawn ns many (.ok (.int (z % many)) (tp (ns.map .int) i' r' s')) := fun z i' r' s' h => ⟨⟨_, _, _, _, rfl, (nn z).1, (nn z).2, h⟩⟩
  by_cases hr : r = 0
  · subst hr
    by_cases hl : i < ns.length
    · by_cases hb : (if ns.getD i.toNat 0 < 0 then -ns.getD i.toNat 0 else ns.getD i.toNat 0) < 1000000000000000000
      · simp [-xk_cs2, -List.getD_eq_getElem?_getD, B_next, startD, tp_ix0, tp_ix1, tp_ix2, tp_ix3, tp_cs1, tp_cs2, tp_cs3, len_lst, hl, ix_ints hi hl, pow_18, e48, e49, e50, e51, e52, e53, e54, noL, hb]
        exact dn _ _ _ _ (by omega)
      · simp [-xk_cs2, -List.getD_eq_getElem?_getD, B_next, startD, tp_ix0, tp_ix1, tp_ix2, tp_ix3, tp_cs1, tp_cs2, tp_cs3, len_lst, hl, ix_ints hi hl, pow_18, e48, e49, e50, e51, e52, e53, e54, noL, hb]
        exact dn _ _ _ _ (by omega)
    · simp [-xk_cs2, B_next, startD, tp_ix0, tp_ix1, tp_ix2, tp_ix3, tp_cs1, tp_cs2, tp_cs3, len_lst, hl, pow_18, e48, e49, e50, e51, e52, e53, e54, noL]
      exact dn _ _ _ _ (by omega)
  · simp [-xk_cs2, B_next, startD, tp_ix0, tp_ix1, tp_ix2, tp_ix3, tp_cs1, tp_cs2, tp_cs3, len_lst, hr, e53, e54, noL]
    exact dn _ _ _ _ hi
end FP
/-! Core14: equality of data, comprehensions and loops as list functions, the law's own equality. -/
namespace FP
open PySem PySem.Spec L2 PySem.W
open PyProof.Rows hiding St

mutual
def dat : D → Bool
  | .non => true | .bl _ => true | .int _ => true | .str s => PyData.strOk s
  | .tup l => dats l | .lst l => dats l | .fro l => dats l | .ptu l => dats l
  | .dic _ _ => false | .ptr _ => false | .exn _ _ _ _ => false
def dats : List D → Bool
  | [] => true
  | d :: l => dat d && dats l
end
mutual
def dep : D → Nat
  | .tup l => deps l + 1 | .lst l => deps l + 1 | .fro l => deps l + 1 | .ptu l => deps l + 1
  | _ => 0
def deps : List D → Nat
  | [] => 0
  | d :: l => max (dep d) (deps l)
end
mutual
def pd : D → PyData
  | .non => .none | .bl b => .bool b | .int i => .int i | .str s => .str s
  | .tup l => .tuple (pds l) | .lst l => .list (pds l) | .fro l => .list (pds l) | .ptu l => .tuple (pds l)
  | .dic _ _ => .none | .ptr _ => .none | .exn _ _ _ _ => .none
def pds : List D → List PyData
  | [] => []
  | d :: l => pd d :: pds l
end
mutual
theorem toP_dat {μ : Mem} : ∀ {d : D}, dat d = true → toP μ d = some (pd d) ∧ (pd d).canLay0 = true ∧ (pd d).depth = dep d
  | .non, _ => ⟨rfl, rfl, rfl⟩
  | .bl _, _ => ⟨rfl, rfl, rfl⟩
  | .int _, _ => ⟨rfl, rfl, rfl⟩
  | .str s, h => ⟨rfl, by simpa [pd, PyData.canLay0, dat] using h, rfl⟩
  | .tup l, h => by
    obtain ⟨h1, h2, h3⟩ := toPs_dat (μ := μ) (l := l) (by simpa [dat] using h)
    exact ⟨by simp [toP, h1, pd], by simpa [pd, PyData.canLay0] using h2, by simp [pd, PyData.depth, dep, h3]⟩
  | .lst l, h => by
    obtain ⟨h1, h2, h3⟩ := toPs_dat (μ := μ) (l := l) (by simpa [dat] using h)
    exact ⟨by simp [toP, h1, pd], by simpa [pd, PyData.canLay0] using h2, by simp [pd, PyData.depth, dep, h3]⟩
  | .fro l, h => by
    obtain ⟨h1, h2, h3⟩ := toPs_dat (μ := μ) (l := l) (by simpa [dat] using h)
    exact ⟨by simp [toP, h1, pd], by simpa [pd, PyData.canLay0] using h2, by simp [pd, PyData.depth, dep, h3]⟩
  | .ptu l, h => by
    obtain ⟨h1, h2, h3⟩ := toPs_dat (μ := μ) (l := l) (by simpa [dat] using h)
    exact ⟨by simp [toP, h1, pd], by simpa [pd, PyData.canLay0] using h2, by simp [pd, PyData.depth, dep, h3]⟩
  | .dic _ _, h => by cases h
  | .ptr _, h => by cases h
  | .exn _ _ _ _, h => by cases h
theorem toPs_dat {μ : Mem} : ∀ {l : List D}, dats l = true → toPL μ l = some (pds l) ∧ PyData.canLayAll0 (pds l) = true ∧ PyData.depthAll (pds l) = deps l
  | [], _ => ⟨rfl, rfl, rfl⟩
  | d :: l, h => by
    simp only [dats, Bool.and_eq_true] at h
    obtain ⟨h1, h2, h3⟩ := toP_dat (μ := μ) (d := d) h.1
    obtain ⟨k1, k2, k3⟩ := toPs_dat (μ := μ) (l := l) h.2
    exact ⟨by simp [toPL, h1, k1, pds], by simp [pds, PyData.canLayAll0, h2, k2], by simp [pds, PyData.depthAll, h3, k3, deps]⟩
end
theorem scal_pd {d e : D} (h : scalD d e = true) : eqS d e = PyData.eqv (pd d) (pd e) := by
  cases d <;> cases e <;> first | (cases h; done) | rfl
theorem eqD_dat {d e : D} {μ : Mem} (hd : dat d = true) (he : dat e = true) (kd : dep d ≤ 64) (ke : dep e ≤ 64) : eqD μ d e = some (PyData.eqv (pd d) (pd e)) := by
  unfold eqD
  by_cases h : scalD d e = true
  · rw [if_pos h, scal_pd h]
  · obtain ⟨h1, h2, h3⟩ := toP_dat (μ := μ) hd
    obtain ⟨k1, k2, k3⟩ := toP_dat (μ := μ) he
    have s1 : SeqAt.shaped (pd d) = true := by simp [SeqAt.shaped, h2, h3, kd]
    have s2 : SeqAt.shaped (pd e) = true := by simp [SeqAt.shaped, k2, k3, ke]
    rw [if_neg h, h1, k1]
    simp [s1, s2]
theorem eq_dat {d e : D} {μ : Mem} (hd : dat d = true) (he : dat e = true) (kd : dep d ≤ 64) (ke : dep e ≤ 64) : fEq d e μ = .ok (.bl (PyData.eqv (pd d) (pd e))) μ := by
  unfold fEq; rw [eqD_dat hd he kd ke]
theorem ne_dat {d e : D} {μ : Mem} (hd : dat d = true) (he : dat e = true) (kd : dep d ≤ 64) (ke : dep e ≤ 64) : fNe d e μ = .ok (.bl (!PyData.eqv (pd d) (pd e))) μ := by
  unfold fNe; rw [eqD_dat hd he kd ke]
@[simp] theorem eq_str (a b : Str) (μ : Mem) : fEq (.str a) (.str b) μ = .ok (.bl (a == b)) μ := by
  simp [fEq, eqD, scalD, eqS]
@[simp] theorem ne_str (a b : Str) (μ : Mem) : fNe (.str a) (.str b) μ = .ok (.bl (!(a == b))) μ := by
  simp [fNe, eqD, scalD, eqS]
@[simp] theorem ne_int (i j : Int) (μ : Mem) : fNe (.int i) (.int j) μ = .ok (.bl (!decide (i = j))) μ := by
  simp [fNe, eqD, scalD, eqS, Bool.beq_eq_decide_eq]
@[simp] theorem eq_bl (i j : Bool) (μ : Mem) : fEq (.bl i) (.bl j) μ = .ok (.bl (i == j)) μ := by
  simp [fEq, eqD, scalD, eqS]
@[simp] theorem ne_bl (i j : Bool) (μ : Mem) : fNe (.bl i) (.bl j) μ = .ok (.bl (!(i == j))) μ := by
  simp [fNe, eqD, scalD, eqS]
@[simp] theorem eq_nil (μ : Mem) : fEq (.lst []) (.lst []) μ = .ok (.bl true) μ := (Eq.refl _).trans (Eq.refl _)

/-! comprehensions -/
theorem lc_all {g : Tg} {tst : MB} {elt : MV} {η : Env'} {μ : Mem} (p : D → Bool) (f : D → D) : ∀ (ds acc : List D), acc.length + ds.length ≤ 10000000 →
    (∀ d ∈ ds, ∃ η1, bindT g d η = some η1 ∧ tst η1 μ = .ok (p d) μ ∧ (p d = true → elt η1 μ = .ok (f d) μ)) → lcLoop g tst elt η ds acc μ = .ok (.lst (acc ++ (ds.filter p).map f)) μ
  | [], acc, _, _ => by simp
  | d :: ds, acc, hl, h => by
    obtain ⟨η1, h1, h2, h3⟩ := h d List.mem_cons_self
    have ih := fun acc' hl' => lc_all (g := g) (tst := tst) (elt := elt) (η := η) (μ := μ) p f ds acc' hl' fun e he => h e (List.mem_cons_of_mem _ he)
    have hl0 : acc.length < 10000000 := by simp at hl; omega
    unfold lcLoop
    simp only [h1, h2, noX, R.bind_ok]
    cases hp : p d with
    | true =>
      simp only [h3 hp, noX, R.bind_ok, if_true, hl0]
      rw [ih _ (by simp at hl ⊢; omega)]
      simp [hp]
    | false =>
      simp only [Bool.false_eq_true, if_false]
      rw [ih _ (by simp at hl ⊢; omega)]
      simp [hp]
theorem lc_map {g : Tg} {elt : MV} {η : Env'} {μ : Mem} (f : D → D) (ds acc : List D) (hl : acc.length + ds.length ≤ 10000000)
    (h : ∀ d ∈ ds, ∃ η1, bindT g d η = some η1 ∧ elt η1 μ = .ok (f d) μ) : lcLoop g bTrue elt η ds acc μ = .ok (.lst (acc ++ ds.map f)) μ := by
  rw [lc_all (fun _ => true) f ds acc hl fun d hd => by
    obtain ⟨η1, h1, h2⟩ := h d hd
    exact ⟨η1, h1, rfl, fun _ => h2⟩, List.filter_eq_self.mpr fun _ _ => rfl]
inductive All2 {α β : Type} (P : α → β → Prop) : List α → List β → Prop where
  | nil : All2 P [] []
  | cons {a : α} {b : β} {as : List α} {bs : List β} (h : P a b) (t : All2 P as bs) : All2 P (a :: as) (b :: bs)
/-- the memory may change: an invariant -/
theorem lc_inv {g : Tg} {elt : MV} {η : Env'} (I : Mem → Prop) (P : D → D → Prop) : ∀ (ds acc : List D) (μ : Mem), acc.length + ds.length ≤ 10000000 → I μ →
    (∀ d ∈ ds, ∀ μ, I μ → ∃ η1 e μ', bindT g d η = some η1 ∧ elt η1 μ = .ok e μ' ∧ I μ' ∧ P d e) →
    ∃ es μ', lcLoop g bTrue elt η ds acc μ = .ok (.lst (acc ++ es)) μ' ∧ I μ' ∧ All2 P ds es
  | [], acc, μ, _, i, _ => ⟨[], μ, by simp, i, .nil⟩
  | d :: ds, acc, μ, hl, i, h => by
    obtain ⟨η1, e, μ1, h1, h2, i1, p⟩ := h d List.mem_cons_self μ i
    have hl0 : acc.length < 10000000 := by simp at hl; omega
    obtain ⟨es, μ', k1, k2, k3⟩ := lc_inv (g := g) (elt := elt) (η := η) I P ds (acc ++ [e]) μ1 (by simp at hl ⊢; omega) i1 fun e he => h e (List.mem_cons_of_mem _ he)
    refine ⟨e :: es, μ', ?_, k2, .cons p k3⟩
    unfold lcLoop
    simp only [h1, h2, noX, R.bind_ok, x_btrue, if_true, hl0]
    rw [k1]
    simp
/-- a for loop with an invariant over what is done -/
theorem for_inv {g : Tg} {body : MS} (P : List D → Env' → Mem → Prop) : ∀ (ds done : List D) (η : Env') (μ : Mem), P done η μ →
    (∀ dn d rest, done ++ ds = dn ++ d :: rest → ∀ η μ, P dn η μ → ∃ η1 η2 μ2, bindT g d η = some η1 ∧ body η1 μ = .nx η2 μ2 ∧ P (dn ++ [d]) η2 μ2) →
    ∃ η' μ', forLoop g body ds η μ = .nx η' μ' ∧ P (done ++ ds) η' μ'
  | [], done, η, μ, p, _ => ⟨η, μ, rfl, by simpa using p⟩
  | d :: ds, done, η, μ, p, h => by
    obtain ⟨η1, η2, μ2, h1, h2, p2⟩ := h done d ds rfl η μ p
    obtain ⟨η', μ', k1, k2⟩ := for_inv (g := g) (body := body) P ds (done ++ [d]) η2 μ2 p2 fun dn e rest he => h dn e rest (by simpa using he)
    refine ⟨η', μ', ?_, by simpa using k2⟩
    unfold forLoop
    simp only [h1, h2]
    exact k1
theorem All2.len {α β : Type} {P : α → β → Prop} : ∀ {l : List α} {m : List β}, All2 P l m → m.length = l.length
  | _, _, .nil => rfl
  | _, _, .cons _ t => by simp [All2.len t]
theorem All2.right {α β : Type} {P : α → β → Prop} {Q : β → Prop} (h : ∀ a b, P a b → Q b) : ∀ {l : List α} {m : List β}, All2 P l m → ∀ b ∈ m, Q b
  | _, _, .nil, _, z => by cases z
  | _, _, .cons p t, b, z => by
    rcases List.mem_cons.mp z with rfl | z
    · exact h _ _ p
    · exact All2.right h t b z
theorem choose_on {α β : Type} [Inhabited β] {l : List α} {Q : α → β → Prop} (h : ∀ e ∈ l, ∃ b, Q e b) : ∃ f : α → β, ∀ e ∈ l, Q e (f e) := by
  classical
  exact ⟨fun e => if h' : e ∈ l then (h e h').choose else default, fun e he => by
    simp only [dif_pos he]
    exact (h e he).choose_spec⟩
theorem inD_strs (x : Str) : ∀ acc : List Str, inD (.str x) (acc.map .str) = decide (x ∈ acc)
  | [] => rfl
  | y :: acc => by
    have ih := inD_strs x acc
    unfold inD at ih ⊢
    rw [List.map_cons, List.any_cons, ih]
    by_cases h : y = x
    · subst h; simp [eqS]
    · have h' : ¬ x = y := fun e => h e.symm
      have hb : (y == x) = false := by simpa using h
      simp [eqS, hb, h']
theorem flat_strs : ∀ acc : List Str, (acc.map D.str).all flatD = true
  | [] => rfl
  | _ :: acc => by simp [flatD]
theorem notIn_strs (x : Str) (acc : List Str) (μ : Mem) : fInA true (.str x) (.lst (acc.map .str)) μ = .ok (.bl (!decide (x ∈ acc))) μ := by
  have h := flat_strs acc
  simp only [fInA, dicOf, fNotIn, isIn, aseq, lseq, flatD, h, Bool.true_and, if_true, inD_strs]
theorem noLs_strs : ∀ acc : List Str, noLs (acc.map D.str) = true
  | [] => rfl
  | _ :: acc => by simp [noLs, noL, noLs_strs acc]
/-- more letters, each once -/
def addTo (acc ls : List Str) : List Str := acc ++ ls.filter fun x => !decide (x ∈ acc)
theorem addTo_nodup {acc ls : List Str} (h : acc.Nodup) (h2 : ls.Nodup) : (addTo acc ls).Nodup := by
  unfold addTo
  refine List.nodup_append.mpr ⟨h, h2.filter _, ?_⟩
  intro a ha b hb e
  subst e
  simp only [List.mem_filter, Bool.not_eq_true', decide_eq_false_iff_not] at hb
  exact hb.2 ha
theorem addTo_length (acc ls : List Str) : (addTo acc ls).length ≤ acc.length + ls.length := by
  unfold addTo
  rw [List.length_append]
  have := List.length_filter_le (fun x => !decide (x ∈ acc)) ls
  omega
theorem hasK_strs (x : Str) : ∀ acc : List Str, hasK (acc.map Sum.inr) (.inr x : Key) = decide (x ∈ acc)
  | [] => rfl
  | y :: acc => by
    have ih := hasK_strs x acc
    unfold hasK at ih ⊢
    rw [List.map_cons, List.any_cons, ih]
    by_cases h : y = x
    · subst h; simp
    · have h' : ¬ x = y := fun e => h e.symm
      have hb : ¬ ((Sum.inr y : Key) = Sum.inr x) := fun e => h (Sum.inr.inj e)
      simp [hb, h']
theorem dputL_same (k : Key) (v : D) : ∀ ks : List Key, dputL k v ks (ks.map fun _ => v) = ks.map fun _ => v
  | [] => rfl
  | k' :: ks => by simp [dputL, dputL_same k v ks]
/-- d[x] = v for the letters, all values v -/
theorem dput_one (acc : List Str) (x : Str) (v : D) : dputK (acc.map Sum.inr) (.inr x : Key) = (addTo acc [x]).map Sum.inr ∧ dputV (acc.map Sum.inr) (acc.map fun _ => v) (.inr x : Key) v = (addTo acc [x]).map fun _ => v := by
  unfold dputK dputV
  rw [hasK_strs]
  by_cases h : x ∈ acc
  · have e : addTo acc [x] = acc := by simp [addTo, h]
    rw [e]
    have z := dputL_same (.inr x : Key) v (acc.map Sum.inr)
    rw [List.map_map] at z
    simp only [h, decide_true, if_true, true_and]
    exact z
  · simp [addTo, h]
theorem addTo_snoc {acc ls : List Str} {x : Str} (h : x ∉ ls) : addTo (addTo acc ls) [x] = addTo acc (ls ++ [x]) := by
  by_cases hx : x ∈ acc
  · have : x ∈ addTo acc ls := List.mem_append_left _ hx
    simp [addTo, hx]
  · simp [addTo, hx, h]
/-! ### the law's own equality -/
def B_same (S : FN) : MS :=
    (sSeq (sIf (mTst (mOp fIsN (mVar 1) (mC (D.non)))) (sRet (mOp fIsN (mVar 0) (mC (D.non)))) sNext)
    (sSeq (sIf (mTst (mIsi (mVar 1) .bool)) (sRet (mAnd (mIsi (mVar 0) .bool) (mOp fEq (mVar 0) (mVar 1)))) sNext)
    (sSeq (sIf (mTst (mIsi (mVar 1) .int)) (sRet (mAnd (mIsi (mVar 0) .int) (mAnd (mNot (mIsi (mVar 0) .bool)) (mOp fEq (mVar 0) (mVar 1))))) sNext)
    (sSeq (sIf (mTst (mIsi (mVar 1) .str)) (sRet (mAnd (mIsi (mVar 0) .str) (mOp fEq (mVar 0) (mVar 1)))) sNext)
    (sSeq (sIf (bOr (bAnd (mTst (mIsi (mVar 1) .list)) (bNot (mTst (mIsi (mVar 0) .list)))) (bAnd (mTst (mIsi (mVar 1) .tuple)) (bNot (mTst (mIsi (mVar 0) .tuple))))) (sRet (mC (D.bl false))) sNext)
    (sRet (mAnd (mOp fEq (mCall fLen (aCons (mVar 0) aNil)) (mCall fLen (aCons (mVar 1) aNil))) (mOp fEq (mLc (iRange1 (aCons (mCall fLen (aCons (mVar 1) aNil)) aNil)) (.nm 2) [2] (bNot (mTst (mFn S 2 [] (aCons (mOp fIxA (mVar 0) (mVar 2)) (aCons (mOp fIxA (mVar 1) (mVar 2)) aNil))))) (mC (D.int 1))) (mLst aNil)))))))))
mutual
/-- what the law's own equality compares -/
def nice : D → Bool
  | .non => true | .bl _ => true | .int _ => true | .str _ => true
  | .tup l => decide (l.length ≤ 10000000) && nices l | .lst l => decide (l.length ≤ 10000000) && nices l
  | _ => false
def nices : List D → Bool
  | [] => true
  | d :: l => nice d && nices l
end
theorem nices_all : ∀ {l : List D}, nices l = true → ∀ d ∈ l, nice d = true
  | [], _, _, h => by cases h
  | e :: l, h, d, hd => by
    simp only [nices, Bool.and_eq_true] at h
    rcases List.mem_cons.mp hd with rfl | hd
    · exact h.1
    · exact nices_all h.2 d hd
theorem deps_all : ∀ {l : List D} {n : Nat}, deps l ≤ n → ∀ d ∈ l, dep d ≤ n
  | [], _, _, _, h => by cases h
  | e :: l, n, h, d, hd => by
    simp only [deps] at h
    rcases List.mem_cons.mp hd with rfl | hd
    · omega
    · exact deps_all (l := l) (n := n) (by omega) d hd
theorem same_seq {S : FN} {μ : Mem} {l : List D} (hl : l.length ≤ 10000000) (hS : ∀ d ∈ l, S [d, d] μ = .ok (.bl true) μ) {x : D} (hx : x = .lst l ∨ x = .tup l) (η : Env') (h0 : η[0]? = some (some x)) (h1 : η[1]? = some (some x)) (h2 : η.length = 3) :
    lcLoop (.nm 2) (bNot (mTst (mFn S 2 [] (aCons (mOp fIxA (mVar 0) (mVar 2)) (aCons (mOp fIxA (mVar 1) (mVar 2)) aNil))))) (mC (D.int 1)) η ((List.range l.length).map fun i => .int (0 + (i : Nat))) [] μ = .ok (.lst []) μ := by
  rw [lc_all (fun _ => false) id _ _ (by simpa using hl)]
  · simp
  · intro d hd
    simp only [List.mem_map, List.mem_range] at hd
    obtain ⟨i, hi, rfl⟩ := hd
    refine ⟨_, rfl, ?_, fun h => by cases h⟩
    have g0 : (η.set 2 (some (D.int (0 + (i : Nat)))))[0]? = some (some x) := by simpa using h0
    have g1 : (η.set 2 (some (D.int (0 + (i : Nat)))))[1]? = some (some x) := by simpa using h1
    have g2 : (η.set 2 (some (D.int (0 + (i : Nat)))))[2]? = some (some (D.int (0 + (i : Nat)))) := by simp [h2]
    have ix : fIxA x (.int (0 + (i : Nat))) μ = .ok l[i] μ := by
      rcases hx with rfl | rfl <;> simp [fIxA, dicOf, fIx, aseq, lseq, atD, hi]
    have sd := hS l[i] (List.getElem_mem _)
    simp only [x_bnot, x_tst, x_fn, x_cons, x_op, x_var, g0, g1, g2, R.bind_ok, xk_cons1, xk_op1, ix, x_nil, xk_cons2, xk_fn]
    simp [sd]
theorem eq_int_self (i : Int) (μ : Mem) : fEq (.int i) (.int i) μ = .ok (.bl true) μ := by
  rw [eq_int, decide_eq_true rfl]
theorem len_tup (l : List D) (μ : Mem) : fLen [.tup l] μ = .ok (.int l.length) μ := (Eq.refl _).trans (Eq.refl _)
theorem rng1_nat {n : Nat} (h : n ≤ 10000000) (μ : Mem) : kRng1 [.int (n : Nat)] μ = .ok ((List.range n).map fun i => .int (0 + (i : Nat))) μ := by
  rw [xk_rng1, if_pos]
  · rw [Int.toNat_natCast]
  · have b1 : ((n : Nat) : Int) < 2 ^ 62 := by omega
    have b2 : (-(2 ^ 62) : Int) ≤ ((n : Nat) : Int) := by omega
    rw [decide_eq_true b1, decide_eq_true b2]
    rfl
theorem same_step {S : FN} {μ : Mem} {d : D} (hn : nice d = true) (hS : ∀ l, d = .tup l ∨ d = .lst l → ∀ e ∈ l, S [e, e] μ = .ok (.bl true) μ) : runF 3 (B_same S) [d, d] μ = .ok (.bl true) μ := by
  rw [run_is]
  cases d with
  | non => simp [B_same, startD, fIsN, isN, noL]
  | bl b => cases b <;> simp [B_same, startD, fIsN, isN, noL, tyD, isi]
  | int b => simp [B_same, startD, fIsN, isN, noL, tyD, isi]
  | str b => simp [B_same, startD, fIsN, isN, noL, tyD, isi]
  | tup l =>
    simp only [nice, Bool.and_eq_true, decide_eq_true_eq] at hn
    have hl := hn.1
    have z := same_seq hl (hS l (.inl rfl)) (x := .tup l) (.inr rfl) [some (.tup l), some (.tup l), none] rfl rfl rfl
    simp [-xk_rng1, B_same, startD, fIsN, isN, noL, tyD, isi, len_tup, eq_int_self, -eq_int, wipeD, -Int.zero_add, z, rng1_nat hl]
  | lst l =>
    simp only [nice, Bool.and_eq_true, decide_eq_true_eq] at hn
    have hl := hn.1
    have z := same_seq hl (hS l (.inr rfl)) (x := .lst l) (.inl rfl) [some (.lst l), some (.lst l), none] rfl rfl rfl
    simp [-xk_rng1, B_same, startD, fIsN, isN, noL, tyD, isi, len_lst, eq_int_self, -eq_int, wipeD, -Int.zero_add, z, rng1_nat hl]
  | fro l => cases hn
  | ptu l => cases hn
  | dic _ _ => cases hn
  | ptr _ => cases hn
  | exn _ _ _ _ => cases hn
theorem same_ok {S : Nat → FN} (hS : ∀ n, S (n + 1) = runF 3 (B_same (S n))) (n : Nat) : ∀ (d : D) (μ : Mem), nice d = true → dep d ≤ n → S (n + 1) [d, d] μ = .ok (.bl true) μ := by
  induction n with
  | zero =>
    intro d μ hn hd
    rw [hS]
    refine same_step hn fun l e => ?_
    rcases e with rfl | rfl <;> simp [dep] at hd
  | succ n ih =>
    intro d μ hn hd
    rw [hS]
    refine same_step hn fun l e => ?_
    rcases e with rfl | rfl <;> (simp only [nice, Bool.and_eq_true] at hn; exact fun e he => ih e μ (nices_all hn.2 e he) (deps_all (by simp [dep] at hd; exact hd) e he))
end FP
/-! Exn1: an own error is made, over the heap: __init__ says super().__init__(place), self.place = place, self.name = '..'; a class under it says super().__init__(place), self.name = '..'. -/
namespace FPX
open PySem PySem.W PySem.Calls PyProof.Rows PySem.HandSPX
open L2 (Mod)

/-! ### self.x = v where the error has its dict -/
section
variable {prog : Program} {w : World} {A : Around} {R : Result → Shared → Prop} {hp : Heap} {g : Array GenState} {d : Drawn} {t : Nat} {os : OsState}
open Builtin Builtin.ObjectAttr
theorem put_old {K : Frag} {name : Str} {tk : Tok} {v : Value} {x C dx : Addr} {fv : Array Value} {cd : ClassData} {m0 : Str → Option Value} {nl : List Str}
    (X : K.In hp) (hx : hp.get? x = some { cls := .ref C, dict := some dx, data := .fields fv }) (hns : hp.Ns1 dx m0) (hw : Within m0 nl) (hz : nl.length ≤ 1000)
    (hcd : clsIn K C = some cd) (hm : refsVE cd.mro = true) (hh : cd.hasDict = true) (ha : findIn K (.ref C) name = some none)
    (hq : ∀ h' tk', (∀ b o, b ≠ dx → hp.get? b = some o → h'.get? b = some o) → h'.Ns1 dx (fun y => if y = name then some v else m0 y) → R (.ok (.ret .none)) ⟨h', g, d, tk', os⟩) :
    codeAny (model prog w) A (.call (.builtin "object.__setattr__") ⟨[.ref x, .str name tk, v], []⟩) R ⟨hp, g, d, t, os⟩ := by
  obtain ⟨oD, _, _, hoD, _, _⟩ := hns.count hw
  have I : InstAt hp x { cls := .ref C, dict := some dx, data := .fields fv } C (some oD) := ⟨hx, rfl, rfl, hoD⟩
  have so := F.store_object
  have hob : cd.mro.contains (.type "object") = true := (refsVE_contains "object" _ hm).trans (by decide +kernel)
  have has : mroIn K C (.type "object") = some true := by
    unfold mroIn
    rw [hcd, Option.bind_some, if_neg (by rw [refsVE_ne hm]; decide), hob]
  have sub : Looks (model prog w) hp (isInstance (.ref x) (.type "object")) true := I.type.andThen (looks_mroIn X has)
  have lm : Looks (model prog w) hp (mroOf (.ref C)) cd.mro := (looks_clsIn X hcd).andThen .now
  have lc : Looks (model prog w) hp (classData C) cd := looks_clsIn X hcd
  have l3 : Looks (model prog w) hp (storeTaker? none) none := .now
  refine codeAny_call_builtin so.slot.plain so.entry ?_
  refine @check_slot (model prog w) _ _ ⟨hp, g, d, t, os⟩ "object.__setattr__" "object" "__setattr__" (.ref x) [.str name tk, v] [] _ so.kind so.split sub (so.args (.ref x) (.str name tk) v) ?_
  rw [osa_eq, refuse_eq]
  refine wpAny_bind (wpAny_bind (I.type.at (wpAny_bind (lm.at ?_))))
  rw [refsVE_pass _ _ hm]
  refine wpAny_pure (wpAny_bind (I.type.at (wpAny_bind ((looks_findIn X ha).at (wpAny_bind (l3.at ?_))))))
  show wpAny _ _ (storeInOwnDict (.ref x) (.ref C) (.str name tk) name v false) _ _ _
  obtain ⟨nm, bs, mro, ns, qn, hd, sn, sb, ab, col, del⟩ := cd
  dsimp only at hh
  subst hh
  unfold storeInOwnDict ownDictForStores
  repeat (first
    | with_reducible refine ESX.store_in_old hns hw hz ?_
    | with_reducible refine wpAny_loadPart_at hx ?_
    | with_reducible refine lc.at ?_
    | wp_step)
  intro h' tk' hn' hs
  exact hq h' tk' (fun b o hb ho => (hs.2 b hb).trans ho) hn'
end

/-! ### ValueError.__init__ bound to the error, called -/
section
variable {prog : Program} {w : World} {A : Around} {E : Value → Shared → Prop} {h : Heap} {g : Array GenState} {d : Drawn} {t : Nat} {os : OsState}
variable {nm q : Str} {C N : Addr} {bs bm : List Value} {hdct : Bool} {sn : List Str} {sub : List Value} {ab : Bool} {col : Option Bool} {dd : Option Addr} {k0 k1 k2 k3 k5 : Option Value}
theorem call_wr {u e t0 : Addr} {rest : List Value} {Q : Value → Shared → Prop}
    (hC : h.get? C = some (excClassObj nm q C N bs bm hdct sn sub ab col dd k0 k1 k2 k3 k5 "ValueError.__new__")) (he : h.get? e = some (excO C t0)) (hu : h.get? u = some (kxs_mw "ValueError.__init__" e)) (hr : rest.length ≤ sizeLine)
    (hq : ∀ h' t1, (∀ b o, b ≠ e → h.get? b = some o → h'.get? b = some o) → h'.get? e = some (excO C t1) → Q .none ⟨h', g, d, t, os⟩) :
    wpAny (model prog w) A (call (.ref u) rest) Q E ⟨h, g, d, t, os⟩ := by
  refine wpAny_call (codeAny_of_tree ?_)
  show wpAny _ A.in1 (callAny (.ref u) ⟨rest, []⟩) _ _ _
  simp only [callAny]
  refine wpAny_bind (wpAny_load hu ?_)
  have mw : (Value.type "method-wrapper" == Value.type "method" || Value.type "method-wrapper" == Value.type "builtin_function_or_method" || Value.type "method-wrapper" == Value.type "method-wrapper") = true := by decide
  simp only [kxs_mw, mw, if_true]
  refine KFB.if_so (by decide) ?_
  refine wpAny_bind (ESX.check_bound PySem.F.excBase_ValueError hC he rfl ?_)
  refine wpAny_bind (wpAny_pure (wpAny_pure ?_))
  refine ⟨Code.quiet_builtin _ (by decide +kernel), codeAny_builtin PySem.F.excBase_ValueError.initEntry ?_⟩
  rw [Around.under_plainId PySem.F.excBase_ValueError.init.plain _]
  wp_walk
  refine hq _ h.objs.size (fun b o hb ho => ?_) ?_
  · rw [Heap.get?_update_other _ _ (Ne.symm hb)]
    exact Heap.get?_push_of_some _ ho
  · rw [Heap.get?_update_self _ (Heap.get?_push_of_some _ he) rfl]
    rfl
end

/-! ### super() in __init__ -/
def iA (p1 p2 : Pos) : Arguments := { posonlyargs := [], args := [{ arg := "self", annotation := none, pos := p1 }, { arg := "place", annotation := none, pos := p2 }], vararg := none, kwonlyargs := [], kw_defaults := [], kwarg := none, defaults := [] }
def iS : Scope := { kind := .function, names := [("self", .local), ("place", .local), ("__class__", .free), ("super", .globalImplicit)], isGenerator := false, isCoroutine := false, more := [] }
/-- super().__init__(place) -/
abbrev iSup (p0 p1 p2 p3 p4 p5 : Pos) : Stmt := .Expr (.Call (.Attribute (.Call (.Name "super" p0) [] [] p1) "__init__" p2) [.Name "place" p3] [] p4) p5
abbrev iEnv (qual : Str) (L f cda cc : Addr) : Env := ksEnv qual iS L f (.ref cda) cc
/-- what the written part says of an __init__ that closes over __class__ = D -/
structure SupFn (prog : Program) (K : Frag) (D f : Addr) (qual : Str) (params : Arguments) (body : List Stmt) where
  (oc kV doc pm ct ccl cl : Value)
  (od an cdd cld : Option Addr)
  (osl ccs csl : Array (Option Value))
  (cda cc : Addr)
  (vs : Array Value) (file : Str) (tf : Tok)
  fn : K.lookup f = some ⟨oc, od, .func (ksFn "__init__" qual params body iS .none kV doc pm an (.ref cda) ct cc), osl⟩
  cd : codeIn K (.ref cda) qual = true
  code : K.lookup cda = some ⟨ccl, cdd, .fields vs, ccs⟩
  at2 : vs[2]? = some (.str file tf)
  src : ((prog.main.file : Str) == file) = true
  cell : K.lookup cc = some ⟨cl, cld, .cell (some (.ref D)), csl⟩
  head : ∃ p1 p2, params = iA p1 p2
  top : (prog.main.scope.names.lookup ("super" : Str)).isSome = false
/-- a method call's head, whatever the places are -/
def MHead (p0 p1 p2 p3 p4 : Pos) : Prop := ∀ (qual : Str) (L f cda cc : Addr), ∃ pl, eval (.Call (.Attribute (.Call (.Name "super" p0) [] [] p1) "__init__" p2) [.Name "place" p3] [] p4) (iEnv qual L f cda cc) = (do
      let ov ← attributeBase (.Call (.Name "super" p0) [] [] p1) "__init__" (iEnv qual L f cda cc) (eval (.Call (.Name "super" p0) [] [] p1) (iEnv qual L f cda cc))
      standAt p2.atName
      let (g, first) ← holding [ov] (getMethod ov "__init__" pl)
      callWith p4 g first (backTo p4 (starEach [.Name "place" p3] (iEnv qual L f cda cc))) [])
section
variable {prog : Program} {w : World} {A : Around} {E : Value → Shared → Prop} {s : Shared} {K : Frag} {mg : Str → Option Value} {base : Heap} {x C D f L : Addr} {ox : Obj} {odx : Option Obj} {qual : Str} {params : Arguments} {body : List Stmt} {cdD : ClassData} {m : Str → Option Value} {attr : Str} {p0 p1 : Pos} {whole : Sem Value}
theorem sup_node {body' : List Stmt} {Q : Value → Shared → Prop} (S : SupFn prog K D f qual params body) (Md : Mod K mg base) (kb : ∀ b o, base.get? b = some o → s.heap.get? b = some o) (hz : mg "super" = none)
    (hn : s.heap.Ns L m) (hv : m "self" = some (.ref x)) (I : InstAt s.heap x ox C odx) (hD : clsIn K D = some cdD) (hsub : mroIn K C (.ref D) = some true) (hat : (attr == ("__class__" : Str)) = false)
    (h : ∀ h', h'.get? s.heap.objs.size = some (ks_superObj D x C) → (∀ b o, s.heap.get? b = some o → h'.get? b = some o) → Q (.ref s.heap.objs.size) { s with heap := h' }) :
    _root_.PySem.wpAt (model prog w) A (.func body' (iEnv qual L f S.cda S.cc)) (attributeBase (.Call (.Name "super" p0) [] [] p1) attr (iEnv qual L f S.cda S.cc) whole) Q E s := by
  have X : K.In s.heap := Md.kin.keeps kb
  obtain ⟨mb, hb, hbb⟩ := Md.blt
  obtain ⟨q1, q2, hpa⟩ := S.head
  subst hpa
  obtain ⟨hh, g, d, t, os⟩ := s
  obtain ⟨oD, hD1, hD2⟩ : ∃ oD, hh.get? D = some oD ∧ oD.data = .cls cdD := by
    unfold clsIn at hD
    split at hD
    · rename_i ho
      cases hD
      exact ⟨_, X _ _ ho, rfl⟩
    · cases hD
  refine ks_wpAt_super_base (env := iEnv qual L f S.cda S.cc) (ar := { arg := "self", annotation := none, pos := q1 }) rfl rfl hat rfl (X _ _ S.fn) rfl rfl rfl (X _ _ S.code) rfl S.at2 S.src S.top ?_
  refine ks_loadName_global rfl rfl (loadGlobal_builtin (env := iEnv qual L f S.cda S.cc) (Md.glob.keeps kb) hz (hb.keeps kb) ((hbb "super" (by decide)).trans (by decide +kernel)) ⟨rfl, ?_⟩)
  refine wpAny_loadName_free rfl rfl rfl ⟨_, X _ _ S.cell, rfl⟩ ?_
  refine wpAny_loadName_local rfl rfl hn hv ?_
  refine ks_wpAny_isType_cls hD1 hD2 ⟨rfl, ?_⟩
  refine ks_wpAny_call_super hD1 hD2 I.at_ I.cls (fun c e => ?_) (looks_mroIn X hsub) (fun h' e k => h h' e k)
  have := I.no
  unfold notCls at this
  rw [e] at this
  exact Bool.noConfusion this
theorem ld_place {Q : Value → Shared → Prop} {cda cc : Addr} {pos : Pos} {v : Value} (hn : s.heap.Ns L m) (hv : m "place" = some v) (h : Q v s) :
    wpAny (model prog w) A (eval (.Name "place" pos) (iEnv qual L f cda cc)) Q E s := wpAny_Name (wpAny_loadName_local rfl rfl hn hv h) (by decide)
theorem ld_self {Q : Value → Shared → Prop} {cda cc : Addr} {pos : Pos} {v : Value} (hn : s.heap.Ns L m) (hv : m "self" = some v) (h : Q v s) :
    wpAny (model prog w) A (eval (.Name "self" pos) (iEnv qual L f cda cc)) Q E s := wpAny_Name (wpAny_loadName_local rfl rfl hn hv h) (by decide)
/-- the head: what super().__init__ is, then the call -/
theorem sup_head {body' rest : List Stmt} {Q : Flow → Shared → Prop} {p2 p3 p4 p5 : Pos} (S : SupFn prog K D f qual params body) (Md : Mod K mg base) (kb : ∀ b o, base.get? b = some o → s.heap.get? b = some o) (hz : mg "super" = none) (he : MHead p0 p1 p2 p3 p4)
    (hn : s.heap.Ns L m) (hv : m "self" = some (.ref x)) (I : InstAt s.heap x ox C odx) (hD : clsIn K D = some cdD) (hsub : mroIn K C (.ref D) = some true)
    (h : ∀ h' pl, h'.get? s.heap.objs.size = some (ks_superObj D x C) → (∀ b o, s.heap.get? b = some o → h'.get? b = some o) →
      wpAny (model prog w) A (getMethod (.ref s.heap.objs.size) "__init__" pl) (fun fx s₂ => wpAny (model prog w) A (callWith p4 fx.1 fx.2 (backTo p4 (starEach [.Name "place" p3] (iEnv qual L f S.cda S.cc))) [])
        (fun _ s3 => wpAny (model prog w) A (execs rest (iEnv qual L f S.cda S.cc)) Q E s3) E s₂) E { s with heap := h' }) :
    _root_.PySem.wpAt (model prog w) A (.func body' (iEnv qual L f S.cda S.cc)) (execs (iSup p0 p1 p2 p3 p4 p5 :: rest) (iEnv qual L f S.cda S.cc)) Q E s := by
  obtain ⟨pl, e⟩ := he qual L f S.cda S.cc
  refine ks_wpAt_execs_cons (ks_wpAt_Expr_any (ks_wpAt_MethodCall (pl := pl) ?_ e))
  refine sup_node S Md kb hz hn hv I hD hsub (by decide) fun h1 e1 k1 => ?_
  refine wpAny_mono (h h1 pl e1 k1) (fun fx s2 z => wpAny_mono z (fun _ s3 y => wpAt_of_wpAny y) fun _ _ y => y) fun _ _ y => y
theorem inst_keeps {h h' : Heap} (I : InstAt h x ox C odx) (k : ∀ b o, h.get? b = some o → h'.get? b = some o) : InstAt h' x ox C odx := by
  refine ⟨k _ _ I.at_, I.cls, I.no, ?_⟩
  have q := I.dict
  cases hd : ox.dict with
  | none =>
    rw [hd] at q
    cases odx with
    | none => exact q
    | some od => exact q
  | some dx =>
    rw [hd] at q
    cases odx with
    | none => exact q
    | some od => exact k _ _ q
/-- super().__init__(place), the next __init__ a def -/
theorem sup_fn {body' rest : List Stmt} {Q : Flow → Shared → Prop} {p2 p3 p4 p5 : Pos} {v : Value} {f2 : Addr} (S : SupFn prog K D f qual params body) (Md : Mod K mg base) (kb : ∀ b o, base.get? b = some o → s.heap.get? b = some o) (hz : mg "super" = none) (he : MHead p0 p1 p2 p3 p4)
    (hn : s.heap.Ns L m) (hv : m "self" = some (.ref x)) (hw : m "place" = some v) (I : InstAt s.heap x ox C odx) (hD : clsIn K D = some cdD) (hsub : mroIn K C (.ref D) = some true) (hop : nsIn K cStatics "thirdparty.any" = some none)
    (hm : ks_superIn K C D "__init__" = some (some (.ref f2))) (hty : typeIn K (.ref f2) = some (.type "function")) (hfn : fnIn K f2 = true)
    (h : ∀ h' tk, (∀ b o, s.heap.get? b = some o → h'.get? b = some o) → codeAny (model prog w) A (.call (.ref f2) ⟨[.ref x, v], []⟩)
      (fun r s' => match r with | .ok (.ret _) => wpAny (model prog w) A (execs rest (iEnv qual L f S.cda S.cc)) Q E s' | .ok _ => False | .error e => E e s') { s with heap := h', toks := tk }) :
    _root_.PySem.wpAt (model prog w) A (.func body' (iEnv qual L f S.cda S.cc)) (execs (iSup p0 p1 p2 p3 p4 p5 :: rest) (iEnv qual L f S.cda S.cc)) Q E s := by
  refine sup_head S Md kb hz he hn hv I hD hsub fun h1 pl e1 k1 => ?_
  have X1 : K.In h1 := Md.kin.keeps fun b o e => k1 b o (kb b o e)
  obtain ⟨hh, g, d, t, os⟩ := s
  cases hc : clsIn K C with
  | none => unfold ks_superIn at hm; rw [hc] at hm; cases hm
  | some cd =>
    unfold ks_superIn at hm
    rw [hc] at hm
    obtain ⟨of, hof, hofc⟩ : ∃ of, h1.get? f2 = some of ∧ of.cls = .type "function" := by
      have ht' : (K.lookup f2).map (·.cls) = some (.type "function") := hty
      cases z : K.lookup f2 with
      | none => rw [z] at ht'; cases ht'
      | some of => rw [z] at ht'; exact ⟨of, X1 _ _ z, Option.some.inj ht'⟩
    have I1 : InstAt h1 x ox C odx := inst_keeps I k1
    refine ks_wpAny_getMethod_super e1 (looks_opaque X1 hop) (l₀ := cd.mro) (fun A Q E s k q => wpAny_bind ((looks_clsIn X1 hc) A _ E s k (wpAny_pure q))) rfl X1 hm hof hofc (ks_ne X1 I1 hc) (by decide) ?_
    have k2 : ∀ b o, hh.get? b = some o → (h1.push (methodObj (.ref f2) (.ref x))).get? b = some o := fun b o e => Heap.get?_push_of_some _ (k1 b o e)
    have hq : (h1.push (methodObj (.ref f2) (.ref x))).get? h1.objs.size = some (methodObj (.ref f2) (.ref x)) := Heap.get?_push_at rfl rfl
    refine callWith_of (P := MethP K h1.objs.size f2 (.ref x)) rfl (fun h X => keeps_M hfn h X) (evalArgs_plain (Calls.spliced_cons ?_))
    refine ld_place (hn.keeps k2) hw (Calls.spliced_nil ⟨⟨hq, Md.kin.keeps fun b o e => k2 b o (kb b o e)⟩, wpAny_call (method_call hq ?_)⟩)
    refine codeAny_mono (h _ _ k2) fun r s' z => ?_
    rcases r with e | (u | _ | _ | _) <;> exact z
/-- super().__init__(place), the next one ValueError's -/
theorem sup_wr {body' rest : List Stmt} {Q : Flow → Shared → Prop} {p2 p3 p4 p5 : Pos} {v : Value} {t0 : Addr} {nm q : Str} {N : Addr} {bs bm : List Value} {hdct : Bool} {sn : List Str} {sub : List Value} {ab : Bool} {col : Option Bool} {dd : Option Addr} {k0 k1 k2 k3 k5 : Option Value} (S : SupFn prog K D f qual params body) (Md : Mod K mg base) (kb : ∀ b o, base.get? b = some o → s.heap.get? b = some o) (hz : mg "super" = none) (he : MHead p0 p1 p2 p3 p4)
    (hn : s.heap.Ns L m) (hv : m "self" = some (.ref x)) (hw : m "place" = some v) (hx : s.heap.get? x = some (excO C t0)) (hxL : x ≠ L) (hC : K.lookup C = some (excClassObj nm q C N bs bm hdct sn sub ab col dd k0 k1 k2 k3 k5 "ValueError.__new__")) (hD : clsIn K D = some cdD) (hsub : mroIn K C (.ref D) = some true) (hop : nsIn K cStatics "thirdparty.any" = some none)
    (hm : ks_superIn K C D "__init__" = some (some (.builtin "ValueError.__init__"))) (hB : subIn K (.ref C) (.type "ValueError") = some true)
    (h : ∀ h' tk t1, (∀ b o, b ≠ x → s.heap.get? b = some o → h'.get? b = some o) → h'.get? x = some (excO C t1) → wpAny (model prog w) A (execs rest (iEnv qual L f S.cda S.cc)) Q E { s with heap := h', toks := tk }) :
    _root_.PySem.wpAt (model prog w) A (.func body' (iEnv qual L f S.cda S.cc)) (execs (iSup p0 p1 p2 p3 p4 p5 :: rest) (iEnv qual L f S.cda S.cc)) Q E s := by
  have I : InstAt s.heap x (excO C t0) C none := ⟨hx, rfl, rfl, trivial⟩
  refine sup_head S Md kb hz he hn hv I hD hsub fun h1 pl e1 kk1 => ?_
  have X1 : K.In h1 := Md.kin.keeps fun b o e => kk1 b o (kb b o e)
  obtain ⟨hh, g, d, t, os⟩ := s
  cases hc : clsIn K C with
  | none => unfold ks_superIn at hm; rw [hc] at hm; cases hm
  | some cd =>
    unfold ks_superIn at hm
    rw [hc] at hm
    have I1 : InstAt h1 x (excO C t0) C none := inst_keeps I kk1
    have hI : Looks (model prog w) h1 (isInstance (.ref x) (.type "ValueError")) true := I1.type.andThen (looks_subIn X1 hB)
    refine kxs_getMethod kxs_ValueError e1 (looks_opaque X1 hop) (l₀ := cd.mro) (fun A Q E s k q => wpAny_bind ((looks_clsIn X1 hc) A _ E s k (wpAny_pure q))) rfl X1 hm hI (ks_ne X1 I1 hc) (by decide) ?_
    have kk2 : ∀ b o, hh.get? b = some o → (h1.push (kxs_mw "ValueError.__init__" x)).get? b = some o := fun b o e => Heap.get?_push_of_some _ (kk1 b o e)
    have hq : (h1.push (kxs_mw "ValueError.__init__" x)).get? h1.objs.size = some (kxs_mw "ValueError.__init__" x) := Heap.get?_push_at rfl rfl
    refine kxs_callWith (i := "ValueError.__init__") (x := x) rfl (evalArgs_plain (Calls.spliced_cons ?_))
    refine ld_place (hn.keeps kk2) hw (Calls.spliced_nil ⟨hq, ?_⟩)
    have hC' : (h1.push (kxs_mw "ValueError.__init__" x)).get? C = some (excClassObj nm q C N bs bm hdct sn sub ab col dd k0 k1 k2 k3 k5 "ValueError.__new__") := Heap.get?_push_of_some _ (X1 _ _ hC)
    refine call_wr hC' (kk2 _ _ hx) hq ?_ fun h' t1 kk e' => ?_
    · show 1 ≤ sizeLine
      decide
    · exact h h' _ t1 (fun b o hb e => kk b o hb (kk2 b o e)) e'
/-- the written part of a class of errors: C's object, its chain, what its attributes are -/
structure ErrCls (K : Frag) (C : Addr) : Prop where
  obj : ∃ nm q N bs bm sn sub ab col dd k0 k1 k2 k3 k5, K.lookup C = some (excClassObj nm q C N bs bm true sn sub ab col dd k0 k1 k2 k3 k5 "ValueError.__new__") ∧ refsVE bm = true
  sa : findIn K (.ref C) "__setattr__" = some (some (.builtin "object.__setattr__"))
  noP : findIn K (.ref C) "place" = some none
  noN : findIn K (.ref C) "name" = some none
  sub : subIn K (.ref C) (.type "ValueError") = some true
theorem ErrCls.cls {C : Addr} (e : ErrCls K C) : ∃ cd, clsIn K C = some cd ∧ refsVE cd.mro = true ∧ cd.hasDict = true := by
  obtain ⟨nm, q, N, bs, bm, sn, sub, ab, col, dd, a0, a1, a2, a3, a5, hC, hb⟩ := e.obj
  have hcl : clsIn K C = some { name := nm, bases := bs, mro := .ref C :: bm, ns := N, qualname := q, hasDict := true, slotNames := sn, subclasses := sub, abstract := ab, collection := col, hasDel := false } := by unfold clsIn; rw [hC] <;> rfl
  exact ⟨_, hcl, hb, rfl⟩
/-- the error behind its __init__: place, name -/
structure Ended (h h' : Heap) (x C dx t1 : Addr) (v : Value) (nm : Str) : Prop where
  keep : ∀ b o, b ≠ x → h.get? b = some o → h'.get? b = some o
  obj : h'.get? x = some { cls := .ref C, dict := some dx, data := .fields #[.ref t1, .none, .none, .none, .bool false, .none] }
  dbig : h.objs.size ≤ dx
  dne : dx ≠ x
  ns : ∃ mA, h'.Ns1 dx mA ∧ mA "place" = some v ∧ (∃ tk, mA "name" = some (.str nm tk)) ∧ ∀ y : Str, y ≠ "place" → y ≠ "name" → mA y = none
/-- the base class's __init__, on an error of any class of the family -/
theorem base_init {R : Result → Shared → Prop} {p2 p3 p4 p5 q0 q1 q2 q3 r0 r1 r2 r3 : Pos} {j : Nat} {nm : Str} {v : Value} {t0 T fT : Addr} {cdT : ClassData} (S : SupFn prog K T fT qual params [iSup p0 p1 p2 p3 p4 p5, .Assign [.Attribute (.Name "self" q0) "place" q1] (.Name "place" q2) q3, .Assign [.Attribute (.Name "self" r0) "name" r1] (.Constant (.str nm) j r2) r3])
    (Md : Mod K mg base) (kb : ∀ b o, base.get? b = some o → s.heap.get? b = some o) (hz : mg "super" = none) (he : MHead p0 p1 p2 p3 p4) (hop : nsIn K cStatics "thirdparty.any" = some none) (lim : s.heap.NoLimit) (hroom : A.depth < recursionLimit)
    (eC : ErrCls K C) (hT : clsIn K T = some cdT) (hsub : mroIn K C (.ref T) = some true) (hm : ks_superIn K C T "__init__" = some (some (.builtin "ValueError.__init__")))
    (hx : s.heap.get? x = some (excO C t0)) (hbx : base.get? x = none)
    (h : ∀ h' tk dx t1, Ended s.heap h' x C dx t1 v nm → R (.ok (.ret .none)) { s with heap := h', toks := tk }) :
    codeAny (model prog w) A (.call (.ref fT) ⟨[.ref x, v], []⟩) R s := by
  obtain ⟨qa, qb, hpa⟩ := S.head
  subst hpa
  obtain ⟨hh, g, d, t, os⟩ := s
  dsimp only at kb hx lim h
  have X : K.In hh := Md.kin.keeps kb
  obtain ⟨cd, hcd, hmro, hhd⟩ := eC.cls
  obtain ⟨nmC, qC, N, bs, bm, sn, sub, ab, col, dd, a0, a1, a2, a3, a5, hC, hb⟩ := eC.obj
  refine ks_codeAny_call_defAt (binds := [("self", .ref x), ("place", v)]) hroom (X _ _ S.fn) rfl lim (codeRec_of X S.cd) rfl (BindsTo.of_eq (by first | rfl | with_unfolding_all rfl)) (show ∀ x ∈ iS.names, x.2 ≠ .cell by decide +kernel) (fun y hy => by simp only [List.mem_cons, List.not_mem_nil, or_false] at hy; rcases hy with rfl | rfl <;> rfl) (fun h0 hns k0 => ?_) rfl rfl rfl
  have hxL : x ≠ hh.objs.size := Nat.ne_of_lt (Heap.lt_size hx)
  show _root_.PySem.wpAt _ _ _ (execs _ (iEnv qual hh.objs.size fT S.cda S.cc)) _ _ _
  refine sup_wr (s := ⟨h0, g, d, t + 2, os⟩) S Md (fun b o e => k0 b o (kb b o e)) hz he hns rfl rfl (k0 _ _ hx) hxL hC hT hsub hop hm eC.sub fun h2 tk2 t1 k2 e2 => ?_
  have bx : ∀ b o, base.get? b = some o → b ≠ x := fun b o e z => by rw [z, hbx] at e; cases e
  have kb2 : ∀ b o, base.get? b = some o → h2.get? b = some o := fun b o e => k2 b o (bx b o e) (k0 b o (kb b o e))
  have X2 : K.In h2 := Md.kin.keeps kb2
  have n2 : h2.Ns hh.objs.size (fun y => [(("self" : Str), Value.ref x), ("place", v)].reverse.lookup y) := hns.at (fun o q => k2 _ _ (Ne.symm hxL) q)
  refine wpAny_execs_cons (plainObj_wpAny_Assign_Attribute ?_)
  refine ld_place n2 rfl (ld_self n2 rfl ?_)
  refine set_plain X2 (ox := excO C t1) (od := none) ⟨e2, rfl, rfl, trivial⟩ eC.sa ?_
  refine exc_osa X2 e2 hcd hmro hhd eC.noP (fun h3 tk3 dx k3 dn dne e3 n3 => ?_)
  have dn : h2.objs.size ≤ dx := dn
  have kb3 : ∀ b o, base.get? b = some o → h3.get? b = some o := fun b o e => k3 b o (bx b o e) (kb2 b o e)
  have X3 : K.In h3 := Md.kin.keeps kb3
  have n3L : h3.Ns hh.objs.size (fun y => [(("self" : Str), Value.ref x), ("place", v)].reverse.lookup y) := n2.at (fun o q => k3 _ _ (Ne.symm hxL) q)
  refine wpAny_execs_cons (plainObj_wpAny_Assign_Attribute ?_)
  refine Calls.Constant_str (ld_self n3L rfl ?_)
  obtain ⟨oD, esD, epD, hoD, hdD, hcD⟩ := n3.count (Within.cons "place" v Within.nil)
  refine set_plain X3 (ox := { cls := .ref C, dict := some dx, data := .fields #[.ref t1, .none, .none, .none, .bool false, .none] }) (od := some oD) ⟨e3, rfl, rfl, hoD⟩ eC.sa ?_
  refine put_old X3 e3 n3 (Within.cons "place" v Within.nil) (by decide) hcd hmro hhd eC.noN (fun h4 tk4 k4 n4 => ?_)
  have hxd : x ≠ dx := Ne.symm dne
  show wpAny _ _ (execs [] _) _ _ _
  refine wpAny_execs_nil (h h4 tk4 dx t1 ⟨fun b o hb e => ?_, k4 _ _ hxd e3, ?_, dne, _, n4, ?_, ⟨_, if_pos rfl⟩, ?_⟩)
  · have lt : b < hh.objs.size := Heap.lt_size e
    have s2 : hh.objs.size < h2.objs.size := n2.lt
    exact k4 b o (Nat.ne_of_lt (Nat.lt_of_lt_of_le (Nat.lt_trans lt s2) dn)) (k3 b o hb (k2 b o hb (k0 b o e)))
  · have s2 : hh.objs.size < h2.objs.size := n2.lt
    exact Nat.le_of_lt (Nat.lt_of_lt_of_le s2 dn)
  · show (if ("place" : Str) = "name" then _ else _) = _
    rw [if_neg (by decide), if_pos rfl]
  · intro y h1 h2
    show (if y = "name" then _ else _) = _
    rw [if_neg h2, if_neg h1]
/-- a derived class's __init__ -/
theorem derived_init {R : Result → Shared → Prop} {p2 p3 p4 p5 r0 r1 r2 r3 : Pos} {j : Nat} {nm nmT qualT : Str} {v : Value} {t0 T fT fC : Addr} {cdT cdC : ClassData} {params' : Arguments} {u0 u1 u2 u3 u4 u5 q0 q1 q2 q3 w0 w1 w2 w3 : Pos} {jT : Nat}
    (S : SupFn prog K C fC qual params [iSup p0 p1 p2 p3 p4 p5, .Assign [.Attribute (.Name "self" r0) "name" r1] (.Constant (.str nm) j r2) r3])
    (ST : SupFn prog K T fT qualT params' [iSup u0 u1 u2 u3 u4 u5, .Assign [.Attribute (.Name "self" q0) "place" q1] (.Name "place" q2) q3, .Assign [.Attribute (.Name "self" w0) "name" w1] (.Constant (.str nmT) jT w2) w3])
    (Md : Mod K mg base) (kb : ∀ b o, base.get? b = some o → s.heap.get? b = some o) (hz : mg "super" = none) (he : MHead p0 p1 p2 p3 p4) (heT : MHead u0 u1 u2 u3 u4) (hop : nsIn K cStatics "thirdparty.any" = some none) (lim : s.heap.NoLimit) (hroom : A.depth + 1 < recursionLimit)
    (eC : ErrCls K C) (hT : clsIn K T = some cdT) (hsubC : mroIn K C (.ref C) = some true) (hsub : mroIn K C (.ref T) = some true) (hmC : ks_superIn K C C "__init__" = some (some (.ref fT))) (hm : ks_superIn K C T "__init__" = some (some (.builtin "ValueError.__init__")))
    (hty : typeIn K (.ref fT) = some (.type "function")) (hfn : fnIn K fT = true) (hx : s.heap.get? x = some (excO C t0)) (hbx : base.get? x = none)
    (h : ∀ h' tk dx t1, Ended s.heap h' x C dx t1 v nm → R (.ok (.ret .none)) { s with heap := h', toks := tk }) :
    codeAny (model prog w) A (.call (.ref fC) ⟨[.ref x, v], []⟩) R s := by
  obtain ⟨qa, qb, hpa⟩ := S.head
  subst hpa
  obtain ⟨hh, g, d, t, os⟩ := s
  dsimp only at kb hx lim h
  have X : K.In hh := Md.kin.keeps kb
  obtain ⟨cd, hcd, hmro, hhd⟩ := eC.cls
  refine ks_codeAny_call_defAt (binds := [("self", .ref x), ("place", v)]) (Nat.lt_of_succ_lt hroom) (X _ _ S.fn) rfl lim (codeRec_of X S.cd) rfl (BindsTo.of_eq (by first | rfl | with_unfolding_all rfl)) (show ∀ x ∈ iS.names, x.2 ≠ .cell by decide +kernel) (fun y hy => by simp only [List.mem_cons, List.not_mem_nil, or_false] at hy; rcases hy with rfl | rfl <;> rfl) (fun h0 hns k0 => ?_) rfl rfl rfl
  have hxL : x ≠ hh.objs.size := Nat.ne_of_lt (Heap.lt_size hx)
  have I0 : InstAt h0 x (excO C t0) C none := ⟨k0 _ _ hx, rfl, rfl, trivial⟩
  show _root_.PySem.wpAt _ _ _ (execs _ (iEnv qual hh.objs.size fC S.cda S.cc)) _ _ _
  refine sup_fn (s := ⟨h0, g, d, t + 2, os⟩) S Md (fun b o e => k0 b o (kb b o e)) hz he hns rfl rfl I0 hcd hsubC hop hmC hty hfn fun h1 tk1 k1 => ?_
  have k01 : ∀ b o, hh.get? b = some o → h1.get? b = some o := fun b o e => k1 b o (k0 b o e)
  refine base_init (s := ⟨h1, g, d, tk1, os⟩) (qual := qualT) ST Md (fun b o e => k01 b o (kb b o e)) hz heT hop (lim.keeps k01) hroom eC hT hsub hm (k01 _ _ hx) hbx fun h2 tk2 dx t1 z => ?_
  show wpAny _ _ _ _ _ _
  have bx : ∀ b o, base.get? b = some o → b ≠ x := fun b o e z => by rw [z, hbx] at e; cases e
  have kb2 : ∀ b o, base.get? b = some o → h2.get? b = some o := fun b o e => z.keep b o (bx b o e) (k01 b o (kb b o e))
  have X2 : K.In h2 := Md.kin.keeps kb2
  have n1 : h1.Ns hh.objs.size (fun y => [(("self" : Str), Value.ref x), ("place", v)].reverse.lookup y) := hns.keeps k1
  have n2 : h2.Ns hh.objs.size (fun y => [(("self" : Str), Value.ref x), ("place", v)].reverse.lookup y) := n1.at (fun o q => z.keep _ _ (Ne.symm hxL) q)
  obtain ⟨mA, ns, m1, ⟨tkn, m2⟩, m3⟩ := z.ns
  have wi : Within mA ["place", "name"] := fun y hy => by
    by_cases a : y = "place"
    · exact a ▸ List.mem_cons_self
    · by_cases b : y = "name"
      · exact b ▸ List.mem_cons_of_mem _ List.mem_cons_self
      · exact absurd (m3 y a b) hy
  obtain ⟨oD, esD, epD, hoD, hdD, hcD⟩ := ns.count wi
  refine wpAny_execs_cons (plainObj_wpAny_Assign_Attribute ?_)
  refine Calls.Constant_str (ld_self n2 rfl ?_)
  refine set_plain X2 (ox := { cls := .ref C, dict := some dx, data := .fields #[.ref t1, .none, .none, .none, .bool false, .none] }) (od := some oD) ⟨z.obj, rfl, rfl, hoD⟩ eC.sa ?_
  refine put_old X2 z.obj ns wi (by decide) hcd hmro hhd eC.noN (fun h4 tk4 k4 n4 => ?_)
  show wpAny _ _ (execs [] _) _ _ _
  have s1 : hh.objs.size < h1.objs.size := n1.lt
  have db : h1.objs.size ≤ dx := z.dbig
  refine wpAny_execs_nil (h h4 tk4 dx t1 ⟨fun b o hb e => ?_, k4 _ _ (Ne.symm z.dne) z.obj, Nat.le_of_lt (Nat.lt_of_lt_of_le s1 db), z.dne, _, n4, ?_, ⟨_, if_pos rfl⟩, ?_⟩)
  · have lt : b < hh.objs.size := Heap.lt_size e
    exact k4 b o (Nat.ne_of_lt (Nat.lt_of_lt_of_le (Nat.lt_trans lt s1) db)) (z.keep b o hb (k01 b o e))
  · show (if ("place" : Str) = "name" then _ else _) = _
    rw [if_neg (by decide)]
    exact m1
  · intro y h1 h2
    show (if y = "name" then _ else _) = _
    rw [if_neg h2]
    exact m3 y h1 h2
/-- a made error -/
structure Made (h h' : Heap) (e C d : Addr) (v : Value) (nm : Str) : Prop where
  keep : ∀ b o, h.get? b = some o → h'.get? b = some o
  new : h.objs.size ≤ e
  obj : ∃ oe vs, h'.get? e = some oe ∧ oe.cls = .ref C ∧ oe.dict = some d ∧ oe.data = .fields vs ∧ vs[1]? = some .none
  dbig : h.objs.size ≤ d
  dne : d ≠ e
  ns : ∃ mA, h'.Ns1 d mA ∧ mA "place" = some v ∧ (∃ tk, mA "name" = some (.str nm tk)) ∧ ∀ y : Str, y ≠ "place" → y ≠ "name" → mA y = none
/-- C(v): the own __init__ at fI is run on the new error -/
theorem made_by {R : Result → Shared → Prop} {v : Value} {nm : Str} {fI : Addr} (X : K.In s.heap) (eC : ErrCls K C) (hi : findIn K (.ref C) "__init__" = some (some (.ref fI))) (hty : typeIn K (.ref fI) = some (.type "function"))
    (h : ∀ (R' : Result → Shared → Prop) (hq : ∀ h' tk dx t1, Ended ((s.heap.push (kdv_tup [v])).push (excO C s.heap.objs.size)) h' (s.heap.objs.size + 1) C dx t1 v nm → R' (.ok (.ret .none)) { s with heap := h', toks := tk }),
      codeAny (model prog w) (A.under (.builtin "type.__call__" ⟨[.ref C, v], []⟩)) (.call (.ref fI) ⟨[.ref (s.heap.objs.size + 1), v], []⟩) R' { s with heap := (s.heap.push (kdv_tup [v])).push (excO C s.heap.objs.size) })
    (hq : ∀ h' tk e d, Made s.heap h' e C d v nm → R (.ok (.ret (.ref e))) { s with heap := h', toks := tk }) :
    codeAny (model prog w) A (.call (.ref C) ⟨[v], []⟩) R s := by
  obtain ⟨nmC, qC, N, bs, bm, sn, sub, ab, col, dd, a0, a1, a2, a3, a5, hC, hb⟩ := eC.obj
  obtain ⟨hh, g, d, t, os⟩ := s
  have k : ∀ b o, hh.get? b = some o → ((hh.push (kdv_tup [v])).push (excO C hh.objs.size)).get? b = some o := fun b o e => Heap.get?_push_of_some _ (Heap.get?_push_of_some _ e)
  refine call_own PySem.F.excBase_ValueError (fun X => refsVE_contains X bm hb) (X _ _ hC) (looks_findIn X hi) (fun self => bind_fn X self hty) (by show 1 ≤ sizeLine; decide) ?_
  refine h _ fun h' tk dx t1 z => ?_
  have old : ∀ b o, hh.get? b = some o → h'.get? b = some o := fun b o e => z.keep b o (Nat.ne_of_lt (Nat.lt_succ_of_lt (Heap.lt_size e))) (k b o e)
  have db : hh.objs.size + 1 + 1 ≤ dx := by
    have q := z.dbig
    first
      | (simpa only [Heap.size_push] using q)
      | exact q
      | (rw [Heap.size_push, Heap.size_push] at q; exact q)
  exact ⟨rfl, hq h' tk (hh.objs.size + 1) dx ⟨old, Nat.le_succ _, ⟨_, _, z.obj, rfl, rfl, rfl, rfl⟩, Nat.le_trans (Nat.le_trans (Nat.le_succ _) (Nat.le_succ _)) db, z.dne, z.ns⟩⟩
end
end FPX
/-! Exn2: raise C(e). -/
namespace FPX
open PySem PySem.W PySem.Calls PyProof.Rows PySem.HandSPX
open L2 (Mod Room)
/-- C(v) makes an error with place = v, name = nm -/
def Makes (prog : Program) (w : World) (K : Frag) (mg : Str → Option Value) (C : Addr) (nm : Str) : Prop :=
  ∀ (base : Heap) (A : Around) (s : Shared) (v : Value) (R : Result → Shared → Prop), Mod K mg base → (∀ b o, base.get? b = some o → s.heap.get? b = some o) → s.heap.NoLimit → A.depth + 3 < recursionLimit →
    (∀ h' tk e d, Made s.heap h' e C d v nm → R (.ok (.ret (.ref e))) { s with heap := h', toks := tk }) → codeAny (model prog w) A (.call (.ref C) ⟨[v], []⟩) R s
section
variable {prog : Program} {w : World} {K : Frag} {mg : Str → Option Value} {C T fT fC : Addr}
theorem off_base {base hh : Heap} {v : Value} {C : Addr} (kb : ∀ b o, base.get? b = some o → hh.get? b = some o) : base.get? (hh.objs.size + 1) = none := by
  cases e : base.get? (hh.objs.size + 1) with
  | none => rfl
  | some o => exact absurd (Nat.lt_of_succ_lt (Heap.lt_size (kb _ _ e))) (Nat.lt_irrefl _)
theorem depth_under {A : Around} {C : Addr} {b : Value} (h : A.depth + 3 < recursionLimit) : (A.under (.builtin "type.__call__" ⟨[.ref C, b], []⟩)).depth + 1 < recursionLimit := by
  have e : A.depth + 1 + 1 < recursionLimit := by omega
  exact e
theorem makes_base {qual : Str} {params : Arguments} {p0 p1 p2 p3 p4 p5 q0 q1 q2 q3 r0 r1 r2 r3 : Pos} {j : Nat} {nm : Str} {cdT : ClassData} (S : SupFn prog K T fT qual params [iSup p0 p1 p2 p3 p4 p5, .Assign [.Attribute (.Name "self" q0) "place" q1] (.Name "place" q2) q3, .Assign [.Attribute (.Name "self" r0) "name" r1] (.Constant (.str nm) j r2) r3])
    (hz : mg "super" = none) (he : MHead p0 p1 p2 p3 p4) (hop : nsIn K cStatics "thirdparty.any" = some none) (eT : ErrCls K T) (hT : clsIn K T = some cdT) (hsub : mroIn K T (.ref T) = some true)
    (hm : ks_superIn K T T "__init__" = some (some (.builtin "ValueError.__init__"))) (hi : findIn K (.ref T) "__init__" = some (some (.ref fT))) (hty : typeIn K (.ref fT) = some (.type "function")) : Makes prog w K mg T nm := by
  intro base A s v R Md kb lim hd hq
  obtain ⟨hh, g, d, t, os⟩ := s
  have k : ∀ b o, hh.get? b = some o → ((hh.push (kdv_tup [v])).push (excO T hh.objs.size)).get? b = some o := fun b o e => Heap.get?_push_of_some _ (Heap.get?_push_of_some _ e)
  refine made_by (Md.kin.keeps kb) eT hi hty (fun R' h => ?_) hq
  refine base_init S Md (fun b o e => k b o (kb b o e)) hz he hop (lim.keeps k) (Nat.lt_of_succ_lt (depth_under hd)) eT hT hsub hm (by heap_get) (off_base (v := v) (C := T) kb) h
theorem makes_derived {qual qualT : Str} {params params' : Arguments} {p0 p1 p2 p3 p4 p5 r0 r1 r2 r3 u0 u1 u2 u3 u4 u5 q0 q1 q2 q3 w0 w1 w2 w3 : Pos} {j jT : Nat} {nm nmT : Str} {cdT : ClassData}
    (S : SupFn prog K C fC qual params [iSup p0 p1 p2 p3 p4 p5, .Assign [.Attribute (.Name "self" r0) "name" r1] (.Constant (.str nm) j r2) r3])
    (ST : SupFn prog K T fT qualT params' [iSup u0 u1 u2 u3 u4 u5, .Assign [.Attribute (.Name "self" q0) "place" q1] (.Name "place" q2) q3, .Assign [.Attribute (.Name "self" w0) "name" w1] (.Constant (.str nmT) jT w2) w3])
    (hz : mg "super" = none) (he : MHead p0 p1 p2 p3 p4) (heT : MHead u0 u1 u2 u3 u4) (hop : nsIn K cStatics "thirdparty.any" = some none) (eC : ErrCls K C) (hT : clsIn K T = some cdT) (hsubC : mroIn K C (.ref C) = some true) (hsub : mroIn K C (.ref T) = some true)
    (hmC : ks_superIn K C C "__init__" = some (some (.ref fT))) (hm : ks_superIn K C T "__init__" = some (some (.builtin "ValueError.__init__"))) (htyT : typeIn K (.ref fT) = some (.type "function")) (hfn : fnIn K fT = true)
    (hi : findIn K (.ref C) "__init__" = some (some (.ref fC))) (hty : typeIn K (.ref fC) = some (.type "function")) : Makes prog w K mg C nm := by
  intro base A s v R Md kb lim hd hq
  obtain ⟨hh, g, d, t, os⟩ := s
  have k : ∀ b o, hh.get? b = some o → ((hh.push (kdv_tup [v])).push (excO C hh.objs.size)).get? b = some o := fun b o e => Heap.get?_push_of_some _ (Heap.get?_push_of_some _ e)
  refine made_by (Md.kin.keeps kb) eC hi hty (fun R' h => ?_) hq
  refine derived_init (cdC := cdT) S ST Md (fun b o e => k b o (kb b o e)) hz he heT hop (lim.keeps k) (depth_under hd) eC hT hsubC hsub hmC hm htyT hfn (by heap_get) (off_base (v := v) (C := C) kb) h
end
/-- what a raise, an except clause wants of a class of errors -/
structure ErrTxt (prog : Program) (w : World) (K : Frag) (mg : Str → Option Value) (nm : Str) (C : Addr) : Prop where
  gC : mg nm = some (.ref C)
  kC : keepIn K (.ref C) = true
  exC : subIn K (.ref C) (.type "BaseException") = some true
  tyC : typeIn K (.ref C) = some (.type "type")
  hdC : hasDictIn K C = true
  ga : findIn K (.ref C) "__getattribute__" = some (some (.builtin "BaseException.__getattribute__"))
  gg : findIn K (.ref C) "__getattr__" = some none
  haC : findIn K (.ref C) "__class__" = some (some (.builtin "object.__class__"))
  hnC : specialIn K (.builtin "object.__class__") "__get__" = some (some (.builtin "getset_descriptor.__get__"))
  htC : takesIn K (.builtin "object.__class__") = some true
  hmC : mroIn K C (.type "object") = some true
  eC : ErrCls K C
  mkE : Makes prog w K mg C nm
end FPX
namespace L2
open PySem PySem.Spec PyProof.Rows
theorem relO_err {v : V} {u : Value} {nm : Str} {tk : Tok} {mA : Str → Option Value} (r : RelV v u) (h1 : mA "place" = some u) (h2 : mA "name" = some (.str nm tk)) (h3 : ∀ y : Str, y ≠ "place" → y ≠ "name" → mA y = none) (f : Str) :
    RelO (List.lookup f [(("place" : Str), v), ("name", V.str nm)]) (mA f) := by
  by_cases a : f = "place"
  · subst a
    rw [h1]
    have q : List.lookup ("place" : Str) [(("place" : Str), v), ("name", V.str nm)] = some v := by simp [List.lookup]
    rw [q]; exact r
  · by_cases b : f = "name"
    · subst b
      rw [h2]
      have q : List.lookup ("name" : Str) [(("place" : Str), v), ("name", V.str nm)] = some (.str nm) := by
        have e1 : (("name" : Str) == ("place" : Str)) = false := by decide
        simp [List.lookup, e1]
      rw [q]; exact ⟨_, rfl⟩
    · rw [h3 f a b]
      have e1 : (f == ("place" : Str)) = false := by simpa using a
      have e2 : (f == ("name" : Str)) = false := by simpa using b
      have q : List.lookup f [(("place" : Str), v), ("name", V.str nm)] = none := by simp [List.lookup, e1, e2]
      rw [q]; trivial
/-- C(e) -/
def tMkErr (nm : Str) (C : Addr) (ta : TA) : St → Hp → XK → Prop := fun σ H Q => ta σ H fun vs H1 => ∃ v, vs = [v] ∧ ∀ d, H1 d = none → Q (.ref C) (some d) (upd H1 d (.xd [(("place" : Str), v), ("name", V.str nm)]))
theorem pmk_err {X : Cx} {C : Addr} {nm : Str} {a : Expr} {ta : TA} {p pos : Pos} {k : Nat} (T : FPX.ErrTxt X.prog X.w X.K X.mg nm C) (hr : Room k X.A) (ha : PA X [a] ta) (hg : Gl X nm := by rfl) (hdb : (nm == ("__debug__" : Str)) = false := by decide)
    (he : starEach (a :: []) X.env = (false, eval a X.env) :: starEach [] X.env := by rfl) (hpl : (backTo pos (starEach [] X.env)).any (·.1) = false := by rfl) : PMk X (.Call (.Name nm p) [a] [] pos) (tMkErr nm C ta) := by
  intro pins s σ H Q I h
  refine wpAny_Call_Name_kw (ld_glob I hg T.gC ?_ hdb)
  refine PySem.W.callWith_K (h₀ := X.base) I.ok.mod.kin T.kC (thn (ha.run pos pins s σ H _ I h) fun us s1 hh => ?_) he hpl
  obtain ⟨vs, H1, I1, r1, v, ev, q1⟩ := hh
  subst ev
  refine ⟨I1.kIn, ?_⟩
  cases r1 with
  | cons rv rn =>
    rename_i v' us'
    cases rn
    show wpAny _ _ (call (.ref C) [v']) _ _ _
    have hlim := I1.nolimit
    have kb : ∀ b o, X.base.get? b = some o → s1.heap.get? b = some o := fun b o e => I1.bk b o e
    obtain ⟨hp, g, dr, tk, os⟩ := s1
    refine wpAny_call (T.mkE X.base X.A ⟨hp, g, dr, tk, os⟩ v' _ I1.ok.mod kb hlim (by have := hr.dp; omega) fun h' tk' e d M => ?_)
    show MkP X pins σ Q (.ref e) ⟨h', g, dr, tk', os⟩
    obtain ⟨oe, fv, hoe, hc, hd, hdat, h1⟩ := M.obj
    obtain ⟨mA, hns, m1, ⟨tkn, m2⟩, m3⟩ := M.ns
    obtain ⟨G', g1, g2⟩ := restrict h' fun b => decide (b ≠ e)
    have gk : ∀ b, b ≠ e → G'.get? b = h'.get? b := fun b hb => g1 b (decide_eq_true hb)
    have ge : G'.get? e = none := g2 e (by simp)
    have old : ∀ b o, hp.get? b = some o → G'.get? b = some o := fun b o q => (gk b (Nat.ne_of_lt (Nat.lt_of_lt_of_le (Heap.lt_size q) M.new))).trans (M.keep b o q)
    have ob : ObjOk X.prog X.w (upd H1 d (.xd [(("place" : Str), v), ("name", V.str nm)])) G' d (.xd [(("place" : Str), v), ("name", V.str nm)]) :=
      ⟨_, hns.at (fun o q => (gk d M.dne).trans q), fun f => relO_err rv m1 m2 m3 f⟩
    have J : Inv X pins σ (upd H1 d (.xd [(("place" : Str), v), ("name", V.str nm)])) ⟨G', g, dr, tk', os⟩ := I1.laid (t' := tk') old M.dbig ob
    refine ⟨e, oe, fv, ⟨G', g, dr, tk', os⟩, _, .ref C, some d, rfl, J, fun b o q => ?_, ge, hoe, ⟨hc, hd⟩, hdat, h1, ?_, rfl, I1.bare, raises_own T.exC T.tyC, q1 d (I1.hok.fresh M.dbig)⟩
    · by_cases hb : b = e
      · have q' : G'.get? b = some o := q
        rw [hb, ge] at q'; cases q'
      · exact (gk b hb).symm.trans q
    · rw [upd_ne (Ne.symm M.dne)]
      exact I1.hok.fresh M.new
end L2
namespace FP
open PySem PySem.Spec L2 PySem.W
open PyProof.Rows hiding St
/-- raise C(e) -/
def sRaise (nm : Str) (m : MV) : MS := fun η μ => liftR (m η μ) η fun d μ1 => if noL d = true then .exc ⟨nm, ["place", "name"], [d, .str nm]⟩ η μ1 else .stuck
theorem ss_raise {X : Cx} {W : WX} {ω : List Nat} {C : Addr} {nm : Str} {a : Expr} {m : MV} {p pos pos2 : Pos} {k : Nat} (hc : X.calm = true) (T : FPX.ErrTxt X.prog X.w X.K X.mg nm C) (hr : Room k X.A) (tk : Takes X W) (ha : EE X W a m) (hg : Gl X nm := by rfl) (hdb : (nm == ("__debug__" : Str)) = false := by decide)
    (he : starEach (a :: []) X.env = (false, eval a X.env) :: starEach [] X.env := by rfl) (hpl : (backTo pos (starEach [] X.env)).any (·.1) = false := by rfl) :
    SS X W ω (.Raise (some (.Call (.Name nm p) [a] [] pos)) none pos2) (sRaise nm m) := (ps_raise hc tk (pmk_err T hr (pa_cons ha pa_nil he) hg hdb he hpl)).imp fun D σ H q => by
  obtain ⟨φ, χ, ψ0, ψ, μ, η, r, p⟩ := q
  refine rdS_bind r p fun φ1 H1 μ1 d x g1 r1 rx p1 => ?_
  split at p1
  · rename_i c
    refine ⟨x, rfl, fun dd hd => ?_⟩
    have g : Go φ1 H1 φ1 (upd H1 dd (.xd [(("place" : Str), x), ("name", V.str nm)])) := .new hd
    refine p1 (.ref C) (some dd) σ φ1 ψ _ g.s (r1.go g (r1.mem.new hd)) ⟨C, dd, [x, .str nm], T.gC, rfl, rfl, upd_same, rfl, ?_⟩
    exact .cons (g.rp (noL_rp c rx)) (.cons rfl .nil)
  · exact p1.elim
end FP
/-! Exn3: try. -/
namespace L2
open PySem PySem.Spec PyProof.Rows
/-- e.f, e the error that the suite holds (at a; its dict dd) -/
def tExF (a dd : Addr) (f : Str) (te : TE) : TE := fun σ H Q => te σ H fun x H1 => x = .ref a ∧ ∃ fs v, H1 dd = some (.xd fs) ∧ List.lookup f fs = some v ∧ Q v H1
theorem pe_exf {X : Cx} {a dd C : Addr} {oe : Obj} {nm f : Str} {pn : List (Addr × Obj)} {e : Expr} {te : TE} {pos : Pos} (T : FPX.ErrTxt X.prog X.w X.K X.mg nm C) (hz : Zc (.ref C) (some dd) oe) (hf : ∃ vs, oe.data = .fields vs) (hno : PySem.W.findIn X.K (.ref C) f = some none)
    (he : PE (X.suite a ((a, oe) :: pn)) e te) (hb : attributeBase e f X.env (eval e X.env) = eval e X.env := by rfl) : PE (X.suite a ((a, oe) :: pn)) (.Attribute e f pos) (tExF a dd f te) := by
  refine ⟨fun pins s σ H Q I h => ?_⟩
  refine attr_of hb (thn (he.run pins s σ H _ I h) fun u s1 hh => ?_)
  obtain ⟨x, H1, I1, rx, ex, fs, v, ea, el, q⟩ := hh
  subst ex
  obtain rfl : u = Value.ref a := rx
  obtain ⟨ha, _⟩ := I1.pin (a, oe) (List.mem_append_left _ List.mem_cons_self)
  obtain ⟨vs, hd⟩ := hf
  have hx : ObjOk X.prog X.w H1 s1.heap dd (.xd fs) := I1.hok dd _ ea
  obtain ⟨mA, hns, hr⟩ := hx
  obtain ⟨od, ho, hl⟩ := lookIn_ns hns
  obtain ⟨u, hu, ru⟩ := RelO.some_of (v := v) (o := mA f) (by rw [← el]; exact hr f)
  have J : PySem.W.InstAt s1.heap a oe C (some od) := ⟨ha, hz.1, by unfold PySem.W.notCls; rw [hd] <;> rfl, by rw [hz.2]; exact ho⟩
  exact HandSPX.exc_get I1.kIn J T.ga T.gg T.exC (PySem.W.findObj_own T.hdC hno rfl (by rw [hl, hu])) (handed_of ru) ⟨v, H1, I1.tok _, ru, q⟩
end L2
namespace FP
open PySem PySem.Spec L2 PySem.W
open PyProof.Rows hiding St
def fget : List Str → List D → Str → Option D
  | g :: fs, d :: ds, f => if f = g then some d else fget fs ds f
  | _, _, _ => none
theorem fget_rp {K : PySem.W.Frag} {φ χ : List Addr} {H : Hp} {f : Str} : ∀ {fs : List Str} {ds : List D} {xs : List V} {d : D}, RpL K φ χ H ds xs → fget fs ds f = some d → ∃ v, List.lookup f (fs.zip xs) = some v ∧ Rp K φ χ H d v
  | [], _, _, _, _, h => by simp [fget] at h
  | _ :: _, [], _, _, _, h => by simp [fget] at h
  | g :: fs, d' :: ds, _, d, r, h => by
    obtain ⟨x, q, rfl, r1, r2⟩ := r
    unfold fget at h
    by_cases e : f = g
    · rw [if_pos e] at h
      cases h
      exact ⟨x, by simp [List.lookup, e], r1⟩
    · rw [if_neg e] at h
      obtain ⟨v, h1, h2⟩ := fget_rp r2 h
      refine ⟨v, ?_, h2⟩
      have eb : (f == g) = false := by simpa using e
      simp [List.lookup, eb, h1]
def mAttr (a dd : Addr) (f : Str) (m : MV) : MV := fun η μ => (m η μ).bind fun d μ1 => match d with
  | .exn a' d' fs ds => if a' = a ∧ d' = dd then (match fget fs ds f with
    | some v => .ok v μ1
    | none => .stuck) else .stuck
  | _ => .stuck
theorem ee_attr {X : Cx} {W : WX} {a dd C : Addr} {oe : Obj} {nm f : Str} {pn : List (Addr × Obj)} {e : Expr} {m : MV} {pos : Pos} (T : FPX.ErrTxt X.prog X.w X.K X.mg nm C) (hz : Zc (.ref C) (some dd) oe) (hf : ∃ vs, oe.data = .fields vs) (hno : PySem.W.findIn X.K (.ref C) f = some none)
    (he : EE (X.suite a ((a, oe) :: pn)) W e m) (hb : attributeBase e f X.env (eval e X.env) = eval e X.env := by rfl) : EE (X.suite a ((a, oe) :: pn)) W (.Attribute e f pos) (mAttr a dd f m) := (L2.pe_exf T hz hf hno he hb).imp fun σ H Q q => by
  obtain ⟨φ, χ, ψ, μ, η, rl, p⟩ := q
  refine rd_bind rl p fun φ1 H1 μ1 d x g1 r1 rx p1 => ?_
  split at p1
  · rename_i a' d' fs ds
    split at p1
    · rename_i c
      obtain ⟨rfl, rfl⟩ := c
      obtain ⟨rfl, hl, xs, hx, r⟩ := rx
      split at p1
      · rename_i v hv
        obtain ⟨w, h1, h2⟩ := fget_rp r hv
        exact ⟨rfl, _, w, hx, h1, p1 _ _ _ .refl r1.mem h2⟩
      · exact p1.elim
    · exact p1.elim
  · exact p1.elim
/-! ### several clauses without a name -/
abbrev WN : WX := fun _ _ _ _ => False
def noE : RS → RS
  | .exc _ _ _ => .stuck
  | r => r
/-- which class takes which: none where nothing is known -/
abbrev SubT := Str → Str → Option Bool
def SubOk (K : PySem.W.Frag) (mg : Str → Option Value) (sub : SubT) (c : Str) (cv : Value) : Prop := ∀ (nm : Str) (b : Bool) (C : Addr), sub nm c = some b → mg nm = some (.ref C) → PySem.W.exmOne K (.ref C) cv = some b
def tryH (sub : SubT) (x : Exn) : List (Str × MS) → MS
  | [], η, μ => .exc x η μ
  | (c, s) :: r, η, μ => match sub x.cls c with
    | some true => noE (s η μ)
    | some false => tryH sub x r η μ
    | none => .stuck
def sTryM (sub : SubT) (body : MS) (hs : List (Str × MS)) : MS := fun η μ => match body η μ with
  | .exc x η' μ' => tryH sub x hs η' μ'
  | r => r
inductive HsOk (X : Cx) (ω : List Nat) (sub : SubT) : List ExceptHandler → List (Str × MS) → List (Value × (Addr → Value → Option Addr → TS)) → Prop
  | nil : HsOk X ω sub [] [] []
  | cons {x : Str} {c : Value} {b₀ : Stmt} {suite : List Stmt} {np pos' : Pos} {hds : List ExceptHandler} {hs : List (Str × MS)} {l : List (Value × (Addr → Value → Option Addr → TS))} {m : MS} (hc : Names X x c) (hb : SubOk X.K X.mg sub x c)
      (hsu : ∀ (a : Addr) (oe : Obj) (cls : Value) (d : Option Addr) (pn : List (Addr × Obj)), Zc cls d oe → (∃ vs, oe.data = .fields vs) → SSs (X.suite a ((a, oe) :: pn)) WN ω (b₀ :: suite) m) (r : HsOk X ω sub hds hs l) :
      HsOk X ω sub (.ExceptHandler (some (.Name x np)) none (b₀ :: suite) pos' :: hds) ((x, m) :: hs) ((c, fun _ _ _ => rdS X.K X.mg WN ω m) :: l)
theorem HsOk.hds {X : Cx} {ω : List Nat} {sub : SubT} : ∀ {hds : List ExceptHandler} {hs : List (Str × MS)} {l : List (Value × (Addr → Value → Option Addr → TS))}, HsOk X ω sub hds hs l → HdsOk X hds l
  | _, _, _, .nil => .nil
  | _, _, _, .cons hc _ hsu r => .cons hc hsu r.hds
theorem noE_post {K : PySem.W.Frag} {mg : Str → Option Value} {W : WX} {ω : List Nat} {φ χ ψ0 ψ : List Addr} {H : Hp} {r : RS} {D : Ends} (p : PostS K mg W ω φ χ ψ0 ψ H (noE r) D) : PostS K mg WN ω φ χ ψ0 ψ H r D := by
  cases r <;> first | exact p | exact p.elim
theorem hs_many {X : Cx} {W : WX} {ω : List Nat} {sub : SubT} {φ χ ψ0 ψ : List Addr} {μ : Mem} {η : Env'} {σ : L2.St} {H : Hp} {D : Ends} {x : Exn} {cls : Value} {dd : Option Addr} : ∀ {hds : List ExceptHandler} {hs : List (Str × MS)} {l : List (Value × (Addr → Value → Option Addr → TS))}, HsOk X ω sub hds hs l →
    RelS X.K X.mg ω φ χ ψ0 ψ μ η σ H → XOk X.K X.mg φ χ H x cls dd → PostS X.K X.mg W ω φ χ ψ0 ψ H (tryH sub x hs η μ) D → wMany X.K W D l cls dd σ H
  | _, _, _, .nil, r, xo, p => p cls dd σ φ ψ H .refl r xo
  | _, _, _, @HsOk.cons _ _ _ xn c _ _ _ _ _ hs l m hc hb hsu rest, r, xo, p => by
    obtain ⟨C, dx, xs, h1, rfl, rfl, h4, h5, h6⟩ := xo
    unfold tryH at p
    cases hsb : sub x.cls xn with
    | none => rw [hsb] at p; exact p.elim
    | some b =>
      rw [hsb] at p
      refine ⟨b, hb _ _ _ hsb h1, fun e a na => ?_, fun e => ?_⟩
      · subst e
        exact ⟨φ, χ, ψ0, ψ, μ, η, r, noE_post p⟩
      · subst e
        exact hs_many rest r ⟨C, dx, xs, h1, rfl, rfl, h4, h5, h6⟩ p
theorem ss_tryM {X : Cx} {W : WX} {ω : List Nat} {sub : SubT} {body : List Stmt} {h₀ : ExceptHandler} {hds : List ExceptHandler} {mb : MS} {hs : List (Str × MS)} {l : List (Value × (Addr → Value → Option Addr → TS))} {pos : Pos} (hst : X.stack = X.env :: X.outer) (hf : X.env.frame = some X.env.locals) (tk : Takes X W)
    (hb : ∀ (W : WX) (pn : List (Addr × Obj)) (xe : Value → Shared → Prop), Takes (X.tr pn xe) W → PassesOwn (model X.prog X.w) X.A X.env xe → SSs (X.tr pn xe) W ω body mb)
    (hh : HsOk X ω sub (h₀ :: hds) hs l) : SS X W ω (.Try body (h₀ :: hds) [] [] pos) (sTryM sub mb hs) := (ps_try_many (tb := fun W => rdS X.K X.mg W ω mb) hst hf tk hb hh.hds).imp fun D σ H q => by
  obtain ⟨φ, χ, ψ0, ψ, μ, η, r, p⟩ := q
  refine ⟨φ, χ, ψ0, ψ, μ, η, r, ?_⟩
  unfold sTryM at p
  cases hm : mb η μ with
  | nx η' μ' => rw [hm] at p; exact p
  | rt d μ' => rw [hm] at p; exact p
  | bk η' μ' => rw [hm] at p; exact p
  | ct η' μ' => rw [hm] at p; exact p
  | stuck => rw [hm] at p; exact p.elim
  | exc x η' μ' =>
    rw [hm] at p
    intro cls a σ' φ' ψ' H' g r' xo
    exact hs_many hh r' xo (PostS.go p g)
end FP
/-! Exn4: try: .. except C as e: .. -/
namespace FP
open PySem PySem.Spec L2 PySem.W
open PyProof.Rows hiding St
/-- behind the suite the name is gone -/
def closeE (i : Nat) : RS → RS
  | .nx η μ => .nx (η.set i none) μ
  | .bk η μ => .bk (η.set i none) μ
  | .ct η μ => .ct (η.set i none) μ
  | .exc _ _ _ => .stuck
  | r => r
def sTryAs (sub : SubT) (body : MS) (c : Str) (i : Nat) (suite : Addr → Addr → MS) : MS := fun η μ => match body η μ with
  | .exc x η' μ' => match sub x.cls c with
    | some true => if noLs x.vs = true then closeE i (suite 0 0 (η'.set i (some (.exn 0 0 x.fs x.vs))) μ') else .stuck
    | some false => .exc x η' μ'
    | none => .stuck
  | r => r
/-- what the suite does does not hang on where the error lies -/
def Free (i : Nat) (suite : Addr → Addr → MS) : Prop := ∀ (a d : Addr) (fs : List Str) (vs : List D) (η : Env') (μ : Mem), closeE i (suite a d (η.set i (some (.exn a d fs vs))) μ) = closeE i (suite 0 0 (η.set i (some (.exn 0 0 fs vs))) μ)
theorem RelS.unset {K : PySem.W.Frag} {mg : Str → Option Value} {ω : List Nat} {φ χ ψ0 ψ : List Addr} {μ : Mem} {η : Env'} {σ : L2.St} {H : Hp} (r : RelS K mg ω φ χ ψ0 ψ μ η σ H) (i : Nat) : RelS K mg ω φ χ ψ0 ψ μ (η.set i none) (σ.set i none) H := by
  have old : ∀ {j : Nat} {d : D}, (η.set i none)[j]? = some (some d) → i ≠ j ∧ η[j]? = some (some d) := fun {j d} h => by
    by_cases q : i = j
    · subst q
      by_cases hl : i < η.length
      · rw [List.getElem?_set_self hl] at h; cases h
      · rw [List.getElem?_eq_none (by simp; omega)] at h; cases h
    · rw [List.getElem?_set_ne q] at h
      exact ⟨q, h⟩
  refine ⟨r.mem, r.off, r.emp, by simp [r.len], fun j d hj he => ?_, fun j d hj he => ?_, fun j k d e u hj hk hjk e1 e2 e3 e4 => ?_⟩
  · obtain ⟨n, he⟩ := old he
    obtain ⟨v, hv, p⟩ := r.ats j d hj he
    exact ⟨v, by rw [List.getElem?_set_ne n]; exact hv, p⟩
  · obtain ⟨n, he⟩ := old he
    obtain ⟨v, hv, p⟩ := r.own j d hj he
    exact ⟨v, by rw [List.getElem?_set_ne n]; exact hv, p⟩
  · obtain ⟨n1, e1⟩ := old e1
    obtain ⟨n2, e2⟩ := old e2
    rw [List.getElem?_set_ne n1] at e3
    rw [List.getElem?_set_ne n2] at e4
    exact r.sep j k d e u hj hk hjk e1 e2 e3 e4
/-- the family of the errors: each has its text -/
def Fam (prog : Program) (w : World) (K : PySem.W.Frag) (mg : Str → Option Value) (sub : SubT) (c : Str) : Prop := ∀ (nm : Str) (C : Addr), sub nm c = some true → mg nm = some (.ref C) → FPX.ErrTxt prog w K mg nm C
/-- the suite's reading: the error is known -/
def rdSu (prog : Program) (w : World) (K : PySem.W.Frag) (mg : Str → Option Value) (ω : List Nat) (ms : Addr → Addr → MS) (a : Addr) (cls : Value) (d : Option Addr) : TS := fun D σ H => ∃ dd C nm, d = some dd ∧ cls = .ref C ∧ FPX.ErrTxt prog w K mg nm C ∧ rdS K mg WN ω (ms a dd) D σ H
theorem ss_tryAs {X : Cx} {W : WX} {ω : List Nat} {sub : SubT} {body suite : List Stmt} {b₀ : Stmt} {mb : MS} {ms : Addr → Addr → MS} {x n : Str} {c : Value} {i : Nat} {np pos pos' : Pos} (hst : X.stack = X.env :: X.outer) (hf : X.env.frame = some X.env.locals) (hN : X.N.Nodup) (hi : X.N[i]? = some n) (hln : X.env.kindOf n = some .local)
    (hc : Names X x c) (tk : Takes X W) (ho : i ∉ ω) (hsb : SubOk X.K X.mg sub x c) (hfam : Fam X.prog X.w X.K X.mg sub x) (hfree : Free i ms)
    (hb : ∀ (W : WX) (pn : List (Addr × Obj)) (xe : Value → Shared → Prop), Takes (X.tr pn xe) W → PassesOwn (model X.prog X.w) X.A X.env xe → SSs (X.tr pn xe) W ω body mb)
    (hsu : ∀ (a : Addr) (oe : Obj) (C dd : Addr) (nm : Str) (pn : List (Addr × Obj)), Zc (.ref C) (some dd) oe → (∃ vs, oe.data = .fields vs) → FPX.ErrTxt X.prog X.w X.K X.mg nm C → SSs (X.suite a ((a, oe) :: pn)) WN ω (b₀ :: suite) (ms a dd)) :
    SS X W ω (.Try body [.ExceptHandler (some (.Name x np)) (some n) (b₀ :: suite) pos'] [] [] pos) (sTryAs sub mb x i ms) := by
  refine (ps_try_as (tb := fun W => rdS X.K X.mg W ω mb) (ts := rdSu X.prog X.w X.K X.mg ω ms) hst hf hN hi hln hc tk hb (fun a oe cls d pn hz hd => ?_)).imp fun D σ H q => ?_
  · refine ⟨fun pins s σ H D I h => ?_⟩
    obtain ⟨dd, C, nm, rfl, rfl, T, h⟩ := h
    exact (hsu a oe C dd nm pn hz hd T).run pins s σ H D I h
  · obtain ⟨φ, χ, ψ0, ψ, μ, η, r, p⟩ := q
    refine ⟨φ, χ, ψ0, ψ, μ, η, r, ?_⟩
    unfold sTryAs at p
    cases hm : mb η μ with
    | nx η' μ' => rw [hm] at p; exact p
    | rt d μ' => rw [hm] at p; exact p
    | bk η' μ' => rw [hm] at p; exact p
    | ct η' μ' => rw [hm] at p; exact p
    | stuck => rw [hm] at p; exact p.elim
    | exc e η' μ' =>
      rw [hm] at p
      simp only at p
      intro cls d σ' φ' ψ' H' g r' xo
      obtain ⟨C, dx, xs, h1, rfl, rfl, h4, h5, h6⟩ := xo
      cases hs : sub e.cls x with
      | none => rw [hs] at p; exact p.elim
      | some b =>
        rw [hs] at p
        refine ⟨b, hsb _ _ _ hs h1, fun eb a na => ?_, fun eb => ?_⟩
        · subst eb
          simp only at p
          by_cases hv : noLs e.vs = true
          case neg => rw [if_neg hv] at p; exact p.elim
          rw [if_pos hv] at p
          have p := PostS.go p g
          rw [← hfree a dx e.fs e.vs η' μ'] at p
          have r2 : RelS X.K X.mg ω φ' χ ψ0 ψ' μ' (η'.set i (some (.exn a dx e.fs e.vs))) (σ'.set i (some (.ref a))) H' := r'.set ho ⟨rfl, h5, xs, h4, ?_⟩
          · refine ⟨dx, C, e.cls, rfl, rfl, hfam _ _ hs h1, φ', χ, ψ0, ψ', μ', _, r2, ?_⟩
            cases hr : ms a dx (η'.set i (some (.exn a dx e.fs e.vs))) μ' with
            | nx η2 μ2 => rw [hr] at p; exact fun σ2 φ2 ψ2 H2 g2 r3 => p _ φ2 ψ2 H2 g2 (r3.unset i)
            | bk η2 μ2 => rw [hr] at p; exact fun σ2 φ2 ψ2 H2 g2 r3 => p _ φ2 ψ2 H2 g2 (r3.unset i)
            | ct η2 μ2 => rw [hr] at p; exact fun σ2 φ2 ψ2 H2 g2 r3 => p _ φ2 ψ2 H2 g2 (r3.unset i)
            | rt d μ2 => rw [hr] at p; exact p
            | exc _ _ _ => rw [hr] at p; exact p.elim
            | stuck => rw [hr] at p; exact p.elim
          · exact noLs_rp hv h6
        · subst eb
          exact p _ _ σ' φ' ψ' H' g r' ⟨C, dx, xs, h1, rfl, rfl, h4, h5, h6⟩
end FP
/-! Exn5: isinstance(e, ValueError) in a suite. -/
namespace L2
open PySem PySem.Spec PyProof.Rows
/-- isinstance(e, c), e the error that the suite holds (its dict dd) -/
def rIsErr (K : PySem.W.Frag) (C a dd : Addr) : List V → Hp → VK → Prop := fun xs H Q => ∃ (c : V) (cv : Value) (b : Bool) (fs : List (Str × V)), xs = [.ref a, c] ∧ (∀ u, RelV c u → u = cv) ∧ PySem.W.kitOne K (.ref C) cv = some b ∧ H dd = some (.xd fs) ∧ Q (.bl b) H
theorem call_isErr {X : Cx} {a dd C : Addr} {nm : Str} {oe : Obj} {pn : List (Addr × Obj)} (T : FPX.ErrTxt X.prog X.w X.K X.mg nm C) (hz : Zc (.ref C) (some dd) oe) (hf : ∃ vs, oe.data = .fields vs) : CallR (X.suite a ((a, oe) :: pn)) (.builtin "isinstance") (rIsErr X.K C a dd) := by
  intro pins s σ H xs us Q I r h
  obtain ⟨c, cv, b, fs, rfl, hcv, e, hx, q⟩ := h
  cases r with
  | cons rx rr =>
    cases rr with
    | cons rt rr =>
      cases rr
      cases rx
      have ec := hcv _ rt
      subst ec
      obtain ⟨hget, _⟩ := I.pin (a, oe) (List.mem_append.mpr (.inl List.mem_cons_self))
      obtain ⟨vs, hv⟩ := hf
      have hx : ObjOk X.prog X.w H s.heap dd (.xd fs) := I.hok dd _ hx
      obtain ⟨mA, hns, _⟩ := hx
      obtain ⟨od, ho, _⟩ := lookIn_ns hns
      have J : PySem.W.InstAt s.heap a oe C (some od) := ⟨hget, hz.1, by unfold PySem.W.notCls; rw [hv] <;> rfl, by rw [hz.2]; exact ho⟩
      obtain ⟨cd, hcd, _⟩ := T.eC.cls
      exact PySem.W.kia_one (PySem.W.kitx_exc (by rw [hcd]; rfl) T.ga T.gg T.exC T.haC T.hnC T.htC T.hmC) I.kIn J e (fun z => nomatch z) fun tk => ⟨.bl b, H, I.kept (t' := tk) fun _ _ z => z, rfl, q⟩
end L2
namespace FP
open PySem PySem.Spec L2 PySem.W
open PyProof.Rows hiding St
def mIsE (a dd : Addr) (m : MV) : MV := fun η μ => (m η μ).bind fun d μ1 => match d with
  | .exn a' d' _ _ => if a' = a ∧ d' = dd then .ok (.bl true) μ1 else .stuck
  | _ => .stuck
theorem kit_ve {K : PySem.W.Frag} {C : Addr} (h : PySem.W.subIn K (.ref C) (.type "ValueError") = some true) : PySem.W.kitOne K (.ref C) (.type "ValueError") = some true := by
  unfold PySem.W.kitOne PySem.W.kitCls
  rw [if_neg (by simp)]
  show (if PySem.W.kitMeta "ValueError" = true then _ else _) = _
  rw [if_pos (by decide +kernel)]
  exact h
theorem ee_isE {X : Cx} {W : WX} {a dd C : Addr} {oe : Obj} {nm : Str} {pn : List (Addr × Obj)} {e : Expr} {m : MV} {p p2 pos : Pos} (T : FPX.ErrTxt X.prog X.w X.K X.mg nm C) (hz : Zc (.ref C) (some dd) oe) (hf : ∃ vs, oe.data = .fields vs)
    (h : EE (X.suite a ((a, oe) :: pn)) W e m) (hm : X.mg "isinstance" = none) (hmT : X.mg "ValueError" = none) (hg : Gl (X.suite a ((a, oe) :: pn)) "isinstance" := by rfl) (hgT : Gl (X.suite a ((a, oe) :: pn)) "ValueError" := by rfl)
    (he : starEach (e :: [.Name "ValueError" p2]) X.env = (false, eval e X.env) :: starEach [.Name "ValueError" p2] X.env := by rfl) (he2 : starEach [.Name "ValueError" p2] X.env = (false, eval (.Name "ValueError" p2) X.env) :: starEach [] X.env := by rfl)
    (hpl : (backTo pos (starEach [.Name "ValueError" p2] X.env)).any (·.1) = false := by rfl) : EE (X.suite a ((a, oe) :: pn)) W (.Call (.Name "isinstance" p) [e, .Name "ValueError" p2] [] pos) (mIsE a dd m) :=
  (pe_callB (call_isErr T hz hf) hg hm (by decide +kernel) (pa_cons h (pa_cons (pe_bltn (v := .ty "ValueError") hgT hmT (by decide +kernel) rfl (by decide) (by decide)) pa_nil he2) he) (by decide) (by decide) he hpl).imp fun σ H Q q => by
    obtain ⟨φ, χ, ψ, μ, η, rl, p⟩ := q
    refine rd_bind rl p fun φ1 H1 μ1 d x g1 r1 rx p1 => ?_
    split at p1
    · split at p1
      · rename_i c
        obtain ⟨rfl, rfl⟩ := c
        obtain ⟨rfl, hl, xs, hx, r⟩ := rx
        exact ⟨_, .type "ValueError", true, _, rfl, fun u hu => hu, kit_ve T.eC.sub, hx, p1 _ _ _ .refl r1.mem rfl⟩
      · exact p1.elim
    · exact p1.elim
end FP
/-! Exn6: x = f(..), the new list that f hands back becomes a cell. -/
namespace FP
open PySem PySem.Spec L2 PySem.W
open PyProof.Rows hiding St
theorem RpL.adopt {K : PySem.W.Frag} {φ Ψ ψ : List Addr} {H : Hp} {a : Addr} {ds : List D} {xs : List V} (ha : a ∈ Ψ) (hs : ∀ b ∈ ψ, b ∈ Ψ) (h : RpL K φ Ψ H ds xs) : RpL K (φ ++ [a]) ψ H ds xs :=
  h.mono (A := φ) (A' := φ) .refl (fun _ h _ => h) (fun b z => by
    rcases z with z | z
    · rcases List.mem_append.mp z with z | z
      · exact .inl (.inl z)
      · have : b = a := by simpa using z
        exact .inl (.inr (this ▸ ha))
    · exact .inl (.inr (hs b z))) fun k b e => by
    rw [List.getElem?_append_left (List.getElem?_eq_some_iff.mp e).1]; exact e
theorem MemOk.adopt {K : PySem.W.Frag} {mg : Str → Option Value} {φ Ψ ψ : List Addr} {μ : Mem} {H : Hp} {a : Addr} {c : Cell} (m : MemOk K mg φ Ψ μ H) (ha : a ∈ Ψ) (hs : ∀ b ∈ ψ, b ∈ Ψ) (hn : a ∉ ψ) (new : CellOk K mg (φ ++ [a]) ψ H c a) : MemOk K mg (φ ++ [a]) ψ (μ ++ [c]) H := by
  refine ⟨by simp [m.len], ?_, fun j c' b e1 e2 => ?_, fun b z => m.trk b (hs b z), fun b z q => ?_⟩
  · rw [List.nodup_append]
    exact ⟨m.nd, by simp, fun x hx y hy => by
      have : y = a := by simpa using hy
      subst this
      exact fun z => m.dis y ha (z ▸ hx)⟩
  · by_cases hj : j < φ.length
    · rw [List.getElem?_append_left hj] at e2
      rw [List.getElem?_append_left (by rw [← m.len]; exact hj)] at e1
      exact (m.ats j c' b e1 e2).via (fun r => r.adopt ha hs) fun _ q => q
    · have hj' : j = φ.length := by
        have := (List.getElem?_eq_some_iff.mp e2).1
        simp at this; omega
      subst hj'
      rw [List.getElem?_append_right (Nat.le_refl _)] at e2
      rw [m.len, List.getElem?_append_right (Nat.le_refl _)] at e1
      simp at e1 e2
      subst e1 e2
      exact new
  · rcases List.mem_append.mp q with q | q
    · exact m.dis b (hs b z) q
    · have : b = a := by simpa using q
      exact hn (this ▸ z)
def sCellF (i : Nat) (m : MV) : MS := fun η μ => liftR (m η μ) η fun d μ1 => match d with
  | .lst l => if noLs l = true then .nx (η.set i (some (.ptr μ1.length))) (μ1 ++ [.lst l]) else .stuck
  | _ => .stuck
def kCellF (i : Nat) (η : Env') : D → Mem → RS := fun d μ1 => match d with
  | .lst l => if noLs l = true then .nx (η.set i (some (.ptr μ1.length))) (μ1 ++ [.lst l]) else .stuck
  | _ => .stuck
@[simp] theorem xk_cellF (i : Nat) (η : Env') (l : List D) (μ : Mem) : kCellF i η (.lst l) μ = (if noLs l = true then .nx (η.set i (some (.ptr μ.length))) (μ ++ [.lst l]) else .stuck) := (Eq.refl _).trans (Eq.refl _)
@[simp] theorem x_cellF (i : Nat) (m : MV) (η : Env') (μ : Mem) : sCellF i m η μ = liftR (m η μ) η (kCellF i η) := (Eq.refl _).trans (Eq.refl _)
theorem ss_cellF {X : Cx} {W : WX} {ω : List Nat} {x : Str} {e : Expr} {i : Nat} {mv : MV} {pos pos' : Pos} (hN : X.N.Nodup) (hi : X.N[i]? = some x) (hx : Loc X.env.scope x) (h : EF X W e mv) (ho : i ∉ ω := by decide) (hs : swapsWith e (some (.Name x pos')) pos.line X.env = pure false := by rfl) (hf : X.fn x = true ∨ X.env.scope.names.lookup x = some .local := by first | exact .inl rfl | exact .inr rfl | assumption) :
    SS X W ω (.Assign [.Name x pos'] e pos) (sCellF i mv) := (ps_set hN hi hx h hs hf).imp fun D σ H q => by
  obtain ⟨φ, χ, ψ0, ψ, μ, η, r, p⟩ := q
  refine rdF_bind r p fun φ1 H1 μ1 N d v g1 r1 m1 hN rv hin p1 => ?_
  split at p1
  · rename_i l
    split at p1
    · rename_i c
      obtain ⟨a, xs, rfl, n, q, rx⟩ := rv
      have ha : a ∈ N := hin a rfl
      have hs : ∀ b ∈ χ ++ (ψ0 ++ ψ), b ∈ χ ++ ((ψ0 ++ ψ) ++ N) := fun b z => by
        simp only [List.mem_append] at z ⊢
        rcases z with z | z | z <;> simp [z]
      have off := Gr.off r.mem (hN a ha)
      have m2 : MemOk X.K X.mg (φ1 ++ [a]) (χ ++ (ψ0 ++ ψ)) (μ1 ++ [.lst l]) H1 := m1.adopt (by simp [ha]) hs off ⟨xs, q, (noLs_rp c rx).adopt (by simp [ha]) hs⟩
      have g2 : Go φ H (φ1 ++ [a]) H1 := ⟨⟨fun b z => by
        rcases List.mem_append.mp z with z | z
        · exact g1.gr.pre b z
        · have : b = a := by simpa using z
          exact .inr (this ▸ hN a ha), g1.gr.keep, g1.gr.there⟩, g1.ext.trans .new⟩
      refine p1 _ (φ1 ++ [a]) ψ H1 g2.s ((r.go g2 m2).set ho ⟨a, ?_, rfl⟩)
      rw [← m1.len]; simp
    · exact p1.elim
  · exact p1.elim
end FP
/-! Exn7: from what the top has written to ErrTxt, SubOk, Fam. -/
namespace FPX
open PySem PySem.W PySem.Calls PyProof.Rows PySem.HandSPX
open L2 (Mod Room)
abbrev veT : List Value := [.type "ValueError", .type "Exception", .type "BaseException", .type "object"]
/-- the class's row -/
structure ClsRow (K : Frag) (nm : Str) (C : Addr) (bm : List Value) : Prop where
  row : ∃ q N bs sn sub ab col dd k0 k1 k2 k3 k5, K.lookup C = some (excClassObj nm q C N bs bm true sn sub ab col dd k0 k1 k2 k3 k5 "ValueError.__new__")
theorem ClsRow.cls {K : Frag} {nm : Str} {C : Addr} {bm : List Value} (r : ClsRow K nm C bm) : ∃ cd, clsIn K C = some cd ∧ cd.mro = .ref C :: bm ∧ cd.hasDict = true ∧ cd.name = nm := by
  obtain ⟨q, N, bs, sn, sub, ab, col, dd, k0, k1, k2, k3, k5, h⟩ := r.row
  exact ⟨_, by unfold clsIn; rw [h] <;> rfl, rfl, rfl, rfl⟩
theorem ClsRow.mro {K : Frag} {nm : Str} {C : Addr} {bm : List Value} (r : ClsRow K nm C bm) (b : Value) : mroIn K C b = some ((Value.ref C :: bm).contains b) := by
  obtain ⟨cd, h, hm, _⟩ := r.cls
  unfold mroIn
  rw [h, Option.bind_some, hm, if_neg (show ¬ (List.isEmpty (Value.ref C :: bm) = true) from Bool.false_ne_true)]
theorem ClsRow.ne {K : Frag} {nm nm' : Str} {C C' : Addr} {bm bm' : List Value} (r : ClsRow K nm C bm) (r' : ClsRow K nm' C' bm') (h : nm ≠ nm') : C ≠ C' := fun e => by
  subst e
  obtain ⟨cd, h1, _, _, n1⟩ := r.cls
  obtain ⟨cd', h2, _, _, n2⟩ := r'.cls
  rw [h1] at h2
  cases h2
  exact h (n1.symm.trans n2)
/-- all classes of the family -/
structure Rows (K : Frag) (mg : Str → Option Value) (errs : List Str) (base : Str) (ce : Str → Addr) : Prop where
  each : ∀ nm ∈ errs, mg nm = some (.ref (ce nm)) ∧ ClsRow K nm (ce nm) (if nm = base then veT else .ref (ce base) :: veT) ∧ typeIn K (.ref (ce nm)) = some (.type "type") ∧ hasDictIn K (ce nm) = true
  base : base ∈ errs
theorem ve_bm {c : Prop} [Decidable c] {T : Addr} : refsVE (if c then veT else .ref T :: veT) = true := by
  by_cases h : c
  · rw [if_pos h]; decide +kernel
  · rw [if_neg h]; show refsVE veT = true; decide +kernel
theorem Rows.sub {K : Frag} {mg : Str → Option Value} {errs : List Str} {base : Str} {ce : Str → Addr} (R : Rows K mg errs base ce) {nm c : Str} (hn : nm ∈ errs) (hc : c ∈ errs) : subIn K (.ref (ce nm)) (.ref (ce c)) = some (nm == c || c == base) := by
  obtain ⟨_, r, _⟩ := R.each nm hn
  obtain ⟨_, rc, _⟩ := R.each c hc
  obtain ⟨_, rb, _⟩ := R.each base R.base
  show mroIn K (ce nm) (.ref (ce c)) = _
  rw [r.mro]
  congr 1
  by_cases h : nm = c
  · subst h
    simp
  · have ne := r.ne rc h
    have e1 : (nm == c) = false := by simpa using h
    have e2 : (Value.ref (ce c) == Value.ref (ce nm)) = false := by
      simp only [beq_eq_false_iff_ne, ne_eq, Value.ref.injEq]
      exact fun e => ne e.symm
    rw [List.contains_cons, e2, e1, Bool.false_or, Bool.false_or]
    by_cases hb : nm = base
    · subst hb
      have e3 : (c == nm) = false := by simpa using fun e => h e.symm
      rw [if_pos rfl, e3]
      rfl
    · rw [if_neg hb, List.contains_cons]
      by_cases hcb : c = base
      · subst hcb
        simp
      · have ne2 := rc.ne rb hcb
        have e4 : (Value.ref (ce c) == Value.ref (ce base)) = false := by
          simp only [beq_eq_false_iff_ne, ne_eq, Value.ref.injEq]
          exact ne2
        have e5 : (c == base) = false := by simpa using hcb
        rw [e4, e5]
        rfl
theorem Rows.bi {K : Frag} {mg : Str → Option Value} {errs : List Str} {base : Str} {ce : Str → Addr} (R : Rows K mg errs base ce) {nm : Str} (hn : nm ∈ errs) (X : String) (hX : veT.contains (.type X) = true) : subIn K (.ref (ce nm)) (.type X) = some true := by
  obtain ⟨_, r, _⟩ := R.each nm hn
  show mroIn K (ce nm) (.type X) = _
  rw [r.mro, List.contains_cons, refsVE_contains X _ ve_bm]
  show some (_ || veT.contains (.type X)) = _
  rw [hX, Bool.or_true]
theorem Rows.errCls {K : Frag} {mg : Str → Option Value} {errs : List Str} {base : Str} {ce : Str → Addr} (R : Rows K mg errs base ce) {nm : Str} (hn : nm ∈ errs) (sa : findIn K (.ref (ce nm)) "__setattr__" = some (some (.builtin "object.__setattr__")))
    (noP : findIn K (.ref (ce nm)) "place" = some none) (noN : findIn K (.ref (ce nm)) "name" = some none) : ErrCls K (ce nm) := by
  obtain ⟨_, ⟨q, N, bs, sn, sub, ab, col, dd, k0, k1, k2, k3, k5, h⟩, _⟩ := R.each nm hn
  exact ⟨⟨nm, q, N, bs, _, sn, sub, ab, col, dd, k0, k1, k2, k3, k5, h, ve_bm⟩, sa, noP, noN, R.bi hn "ValueError" (by decide +kernel)⟩
/-- one class: what else k_is shows -/
theorem Rows.err {prog : Program} {w : World} {K : Frag} {mg : Str → Option Value} {errs : List Str} {base : Str} {ce : Str → Addr} (R : Rows K mg errs base ce) {nm : Str} (hn : nm ∈ errs) (eC : ErrCls K (ce nm)) (kC : keepIn K (.ref (ce nm)) = true)
    (ga : findIn K (.ref (ce nm)) "__getattribute__" = some (some (.builtin "BaseException.__getattribute__"))) (gg : findIn K (.ref (ce nm)) "__getattr__" = some none) (haC : findIn K (.ref (ce nm)) "__class__" = some (some (.builtin "object.__class__")))
    (hnC : specialIn K (.builtin "object.__class__") "__get__" = some (some (.builtin "getset_descriptor.__get__"))) (htC : takesIn K (.builtin "object.__class__") = some true) (mk : Makes prog w K mg (ce nm) nm) : ErrTxt prog w K mg nm (ce nm) := by
  obtain ⟨g, _, ty, hd⟩ := R.each nm hn
  exact ⟨g, kC, R.bi hn "BaseException" (by decide +kernel), ty, hd, ga, gg, haC, hnC, htC, R.bi hn "object" (by decide +kernel), eC, mk⟩
end FPX
namespace FP
open PySem PySem.Spec L2 PySem.W
open PyProof.Rows hiding St
theorem subOk_of {K : PySem.W.Frag} {mg : Str → Option Value} {errs : List Str} {base : Str} {ce : Str → Addr} (R : FPX.Rows K mg errs base ce) {c : Str} (hc : c ∈ errs) : SubOk K mg (fun a c => if (errs.contains a && errs.contains c) = true then some (a == c || c == base) else none) c (.ref (ce c)) := by
  intro nm b C h hm
  simp only at h
  split at h
  · rename_i q
    simp only [Bool.and_eq_true, List.contains_iff_mem] at q
    cases h
    obtain ⟨e1, _⟩ := R.each nm q.1
    rw [hm] at e1
    cases e1
    obtain ⟨_, _, ty, hd⟩ := R.each c hc
    exact PySem.W.exm_ref (R.bi hc "BaseException" (by decide +kernel)) hd ty (R.sub q.1 hc)
  · cases h
theorem fam_of {P : Program} {w : World} {K : PySem.W.Frag} {mg : Str → Option Value} {errs : List Str} {base : Str} {ce : Str → Addr} (E : ∀ nm ∈ errs, FPX.ErrTxt P w K mg nm (ce nm)) {c : Str} : Fam P w K mg (fun a c => if (errs.contains a && errs.contains c) = true then some (a == c || c == base) else none) c := by
  intro nm C h hm
  simp only at h
  split at h
  · rename_i q
    simp only [Bool.and_eq_true, List.contains_iff_mem] at q
    have T := E nm q.1
    have e1 := T.gC
    rw [hm] at e1
    cases e1
    exact T
  · cases h
end FP
/-! Core15: cells made by expressions, methods of lists, stores through expressions, own lists in a parallel assignment, max and min. -/
namespace FP
open PySem PySem.Spec L2 PySem.W
open PyProof.Rows hiding St

/-! ### a new list becomes a cell -/
/-- a new list (of plain things) becomes a cell -/
def mNewC (m : MV) : MV := fun η μ => (m η μ).bind fun d μ1 => match d with
  | .lst l => if noLs l = true then .ok (.ptr μ1.length) (μ1 ++ [.lst l]) else .stuck
  | .dic ks l => if noLs l = true then .ok (.ptr μ1.length) (μ1 ++ [.dic ks l]) else .stuck
  | _ => .stuck
theorem adopt_go {φ φ1 : List Addr} {H H1 : Hp} {a : Addr} (g1 : Go φ H φ1 H1) (hn : H a = none) : Go φ H (φ1 ++ [a]) H1 :=
  ⟨⟨fun b z => by
    rcases List.mem_append.mp z with z | z
    · exact g1.gr.pre b z
    · have : b = a := by simpa using z
      exact .inr (this ▸ hn), g1.gr.keep, g1.gr.there⟩, g1.ext.trans .new⟩
section
variable {X : Cx} {W : WX} {e : Expr} {m : MV}
theorem ef_newC (h : EF X W e m) : EE X W e (mNewC m) := h.imp fun σ H Q q => by
  obtain ⟨φ, χ, ψ, μ, η, r, p⟩ := q
  refine ⟨φ, χ, ψ, μ, η, r, ?_⟩
  unfold mNewC at p
  cases hm : m η μ with
  | exc x μ1 => rw [hm] at p; exact p
  | stuck => rw [hm] at p; exact p
  | ok d μ1 =>
    rw [hm] at p
    simp only [FP.R.bind_ok] at p
    intro v φ1 N H1 g1 m1 hN rp hi
    have sub : ∀ b ∈ χ ++ ψ, b ∈ χ ++ (ψ ++ N) := fun b z => by
      simp only [List.mem_append] at z ⊢
      rcases z with z | z <;> simp [z]
    cases d with
    | lst l =>
      obtain ⟨c, p⟩ := Post.ite p
      obtain ⟨a, xs, rfl, n, q, rx⟩ := rp
      have ha : a ∈ N := hi a rfl
      have off := Gr.off r.mem (hN a ha)
      have m2 : MemOk X.K X.mg (φ1 ++ [a]) (χ ++ ψ) (μ1 ++ [.lst l]) H1 := m1.adopt (by simp [ha]) sub off ⟨xs, q, (noLs_rp (χ' := χ ++ (ψ ++ N)) c rx).adopt (by simp [ha]) sub⟩
      refine p _ (φ1 ++ [a]) H1 (adopt_go g1 (hN a ha)) m2 ⟨a, ?_, rfl⟩
      rw [← m1.len]; simp
    | dic ks l =>
      obtain ⟨c, p⟩ := Post.ite p
      obtain ⟨a, xs, rfl, n, q, hl, rx⟩ := rp
      have ha : a ∈ N := hi a rfl
      have off := Gr.off r.mem (hN a ha)
      have m2 : MemOk X.K X.mg (φ1 ++ [a]) (χ ++ ψ) (μ1 ++ [.dic ks l]) H1 := m1.adopt (by simp [ha]) sub off ⟨xs, q, hl, (noLs_rp (χ' := χ ++ (ψ ++ N)) c rx).adopt (by simp [ha]) sub⟩
      refine p _ (φ1 ++ [a]) H1 (adopt_go g1 (hN a ha)) m2 ⟨a, ?_, rfl⟩
      rw [← m1.len]; simp
    | _ => exact p.elim
end

/-! ### methods of lists -/
/-- o.f(es), o a list -/
def mMt (f : D → List D → Mem → R D) (mo : MV) (ms : ML) : MV := fun η μ => (mo η μ).bind fun o μ1 => match lseq μ1 o with
  | some _ => (ms η μ1).bind fun ds μ2 => f o ds μ2
  | none => .stuck
/-- what a method's plain function says of its rule -/
def MtS (K : PySem.W.Frag) (mg : Str → Option Value) (f : D → List D → Mem → R D) (r : V → List V → Hp → VK → Prop) : Prop :=
  ∀ (W : WX) (φ χ ψ : List Addr) (μ : Mem) (σ : L2.St) (H : Hp) (o : D) (ds : List D) (x : V) (xs : List V) (Q : VK), MemOk K mg φ (χ ++ ψ) μ H → Rp K φ χ H o x → RpL K φ χ H ds xs → Post K mg W (rV K) σ φ χ ψ H (f o ds μ) Q → r x xs H Q
theorem tyV_list {K : PySem.W.Frag} {mg : Str → Option Value} {φ χ ψ : List Addr} {H : Hp} {μ : Mem} {d : D} {v : V} {ds : List D} (m : MemOk K mg φ (χ ++ ψ) μ H) (r : Rp K φ χ H d v) (e : lseq μ d = some ds) : tyV K "list" v H := by
  obtain ⟨a, xs, rfl, q, _⟩ := lseq_rp m r e
  exact .inl ⟨rfl, xs, q⟩
section
variable {X : Cx} {W : WX} {o e : Expr} {es : List Expr} {mo : MV} {ms : ML} {name : Str} {apos cpos : Pos} {id : String} {f : D → List D → Mem → R D} {r : V → List V → Hp → VK → Prop}
theorem ee_mt (slot : Slot "list" name id) (hty : typeOf (.builtin id) = pure (.type "method_descriptor")) (hm : MtR X id r) (hS : MtS X.K X.mg f r) (ho : EE X W o mo) (ha : AA X W (e :: es) ms)
    (hbase : attributeBase o name X.env (eval o X.env) = eval o X.env := by rfl)
    (hfew : ((backTo cpos (starEach (e :: es) X.env)).all (fun x => !x.1) && (backToKw cpos (keywordEach [] X.env)).all (fun x => x.1.isSome)
      && decide ((e :: es).length + ([] : List Keyword).length + (if ([] : List Keyword).isEmpty then 0 else 1) < 30)) = true := by rfl)
    (hline : (apos.endLine == cpos.line) = true := by rfl) (hs : starEach (e :: es) X.env = (false, eval e X.env) :: starEach es X.env := by rfl) (hplain : (backTo cpos (starEach es X.env)).any (·.1) = false := by rfl) :
    EE X W (.Call (.Attribute o name apos) (e :: es) [] cpos) (mMt f mo ms) :=
  (pe_bm PySem.F.plainAttrs_list slot hty hm ho ha hbase hfew hline hs hplain).imp fun σ H Q q => by
    obtain ⟨φ, χ, ψ, μ, η, rl, p⟩ := q
    refine rd_bind rl p fun φ1 H1 μ1 d x g1 r1 rx p1 => ?_
    split at p1
    · rename_i l hl
      refine ⟨tyV_list r1.mem rx hl, ?_⟩
      exact rd_bind r1 p1 fun φ2 H2 μ2 ds xs g2 r2 rxs p2 => hS W φ2 χ ψ μ2 σ H2 d ds x xs Q r2.mem (g2.rp rx) rxs p2
    · exact p1.elim
theorem ee_mt0 (slot : Slot "list" name id) (hty : typeOf (.builtin id) = pure (.type "method_descriptor")) (hm : MtR X id r) (hS : MtS X.K X.mg f r) (ho : EE X W o mo)
    (hbase : attributeBase o name X.env (eval o X.env) = eval o X.env := by rfl) (hline : (apos.endLine == cpos.line) = true := by rfl) :
    EE X W (.Call (.Attribute o name apos) [] [] cpos) (mMt f mo aNil) :=
  (pe_bm0 PySem.F.plainAttrs_list slot hty hm ho hbase hline).imp fun σ H Q q => by
    obtain ⟨φ, χ, ψ, μ, η, rl, p⟩ := q
    refine rd_bind rl p fun φ1 H1 μ1 d x g1 r1 rx p1 => ?_
    split at p1
    · rename_i l hl
      refine ⟨tyV_list r1.mem rx hl, ?_⟩
      exact hS W φ1 χ ψ μ1 σ H1 d [] x [] Q r1.mem rx .nil p1
    · exact p1.elim
end
section
variable {K : PySem.W.Frag} {mg : Str → Option Value}
theorem cell_lst {φ χ ψ : List Addr} {H : Hp} {μ : Mem} {c : Nat} {l : List D} {v : V} (m : MemOk K mg φ (χ ++ ψ) μ H) (r : Rp K φ χ H (.ptr c) v) (e : μ[c]? = some (.lst l)) : ∃ a xs, φ[c]? = some a ∧ v = .ref a ∧ H a = some (.lst xs) ∧ RpL K φ (χ ++ ψ) H l xs := by
  obtain ⟨a, ha, rfl⟩ := r
  obtain ⟨xs, q, rx⟩ := m.ats c _ a e ha
  exact ⟨a, xs, ha, rfl, q, rx⟩
/-- a list cell gets other items -/
theorem cell_put {φ χ ψ : List Addr} {H : Hp} {μ : Mem} {c : Nat} {l' : List D} {a : Addr} {xs xs' : List V} {W : WX} {σ : L2.St} {d : D} {v : V} {Q : VK} (m : MemOk K mg φ (χ ++ ψ) μ H) (ha : φ[c]? = some a) (q : H a = some (.lst xs)) (rx : RpL K φ (χ ++ ψ) H l' xs')
    (rv : Rp K φ χ H d v) (p : Post K mg W (rV K) σ φ χ ψ H (.ok d (μ.set c (.lst l'))) Q) : Q v (upd H a (.lst xs')) := by
  have g : Go φ H φ (upd H a (.lst xs')) := ⟨.mut (List.mem_of_getElem? ha) q trivial, .refl⟩
  exact p v φ _ g (m.set ha q trivial ⟨xs', upd_same, g.rpL rx⟩) (g.rp rv)
def cApp (o : D) (ds : List D) (μ : Mem) : R D := match o, ds with
  | .ptr c, [d] => match μ[c]? with
    | some (.lst l) => if (noL d && decide (l.length < 10000000)) = true then .ok .non (μ.set c (.lst (l ++ [d]))) else .stuck
    | _ => .stuck
  | _, _ => .stuck
theorem ms_app : MtS K mg cApp rAppend := by
  intro W φ χ ψ μ σ H o ds x xs Q m ro rs p
  unfold cApp at p
  split at p
  · rename_i c d
    split at p
    · rename_i l hl
      obtain ⟨hc, p⟩ := Post.ite p
      simp only [Bool.and_eq_true, decide_eq_true_eq] at hc
      obtain ⟨a, ys, ha, rfl, q, ry⟩ := cell_lst m ro hl
      obtain ⟨y, rfl, rd⟩ := rs.one
      refine ⟨a, ys, y, rfl, rfl, q, Nat.lt_of_lt_of_le (by rw [ry.length]; exact hc.2) (line_le (Nat.le_refl _)), ?_⟩
      exact cell_put m ha q (ry.append (.cons (noL_rp hc.1 rd) .nil)) (d := .non) rfl p
    · exact p.elim
  · exact p.elim
theorem RpL.dropLast {φ ψ : List Addr} {H : Hp} : ∀ {l : List D} {xs : List V}, RpL K φ ψ H l xs → RpL K φ ψ H l.dropLast xs.dropLast
  | [], _, h => by cases h; rfl
  | [d], _, h => by
    obtain ⟨x, r, rfl, _, h2⟩ := h
    cases h2
    rfl
  | d :: e :: l, _, h => by
    obtain ⟨x, r, rfl, h1, h2⟩ := h
    have ih := RpL.dropLast h2
    obtain ⟨y, r', rfl, h3, h4⟩ := h2
    exact ⟨x, _, rfl, h1, ih⟩
theorem RpL.eraseIdx {φ ψ : List Addr} {H : Hp} : ∀ {l : List D} {xs : List V} (k : Nat), RpL K φ ψ H l xs → RpL K φ ψ H (l.eraseIdx k) (xs.eraseIdx k)
  | [], _, _, h => by cases h; rfl
  | d :: l, _, 0, h => by
    obtain ⟨x, r, rfl, h1, h2⟩ := h
    exact h2
  | d :: l, _, k + 1, h => by
    obtain ⟨x, r, rfl, h1, h2⟩ := h
    exact ⟨x, _, rfl, h1, h2.eraseIdx k⟩
/-- cells hold no inner lists -/
def cPop (o : D) (ds : List D) (μ : Mem) : R D := match o, ds with
  | .ptr c, [] => match μ[c]? with
    | some (.lst l) => match l[l.length - 1]? with
      | some d => if noL d = true then .ok d (μ.set c (.lst l.dropLast)) else .stuck
      | none => .stuck
    | _ => .stuck
  | _, _ => .stuck
theorem ms_pop : MtS K mg cPop rPop := by
  intro W φ χ ψ μ σ H o ds x xs Q m ro rs p
  unfold cPop at p
  split at p
  · rename_i c
    split at p
    · rename_i l hl
      split at p
      · rename_i d hd
        obtain ⟨hc, p⟩ := Post.ite p
        obtain ⟨a, ys, ha, rfl, q, ry⟩ := cell_lst m ro hl
        obtain ⟨y, hy, rd⟩ := ry.get hd
        cases rs
        refine ⟨a, ys, y, rfl, rfl, q, by rw [ry.length]; exact hy, ?_⟩
        exact cell_put m ha q ry.dropLast (noL_rp hc rd) p
      · exact p.elim
    · exact p.elim
  · exact p.elim
def cPopAt (o : D) (ds : List D) (μ : Mem) : R D := match o, ds with
  | .ptr c, [.int i] => match μ[c]? with
    | some (.lst l) => match (if (decide (-(2 ^ 63) ≤ i) && decide (i < 2 ^ 63)) = true then seqIndex? i l.length else none) with
      | some k => match l[k]? with
        | some d => if noL d = true then .ok d (μ.set c (.lst (l.eraseIdx k))) else .stuck
        | none => .stuck
      | none => .stuck
    | _ => .stuck
  | _, _ => .stuck
theorem ms_popAt : MtS K mg cPopAt rPopAt := by
  intro W φ χ ψ μ σ H o ds x xs Q m ro rs p
  unfold cPopAt at p
  split at p
  · rename_i c i
    split at p
    · rename_i l hl
      split at p
      · rename_i k hk
        split at p
        · rename_i d hd
          obtain ⟨hc, p⟩ := Post.ite p
          obtain ⟨a, ys, ha, rfl, q, ry⟩ := cell_lst m ro hl
          obtain ⟨y, hy, rd⟩ := ry.get hd
          obtain ⟨z, rfl, rz⟩ := rs.one
          cases rz
          split at hk
          · rename_i hb
            simp only [Bool.and_eq_true, decide_eq_true_eq] at hb
            refine ⟨a, ys, i, k, y, rfl, rfl, q, hb.1, hb.2, by rw [ry.length]; exact hk, hy, ?_⟩
            exact cell_put m ha q (ry.eraseIdx k) (noL_rp hc rd) p
          · cases hk
        · exact p.elim
      · exact p.elim
    · exact p.elim
  · exact p.elim
end
end FP
/-! Core16: stores through expressions, more of lists, an own list in a parallel assignment, max and min. -/
namespace FP
open PySem PySem.Spec L2 PySem.W
open PyProof.Rows hiding St
section
variable {K : PySem.W.Frag} {mg : Str → Option Value}
def cExt (o : D) (ds : List D) (μ : Mem) : R D := match o, ds with
  | .ptr c, [.lst ms] => match μ[c]? with
    | some (.lst l) => if (noLs ms && decide (l.length + ms.length ≤ 10000000)) = true then .ok .non (μ.set c (.lst (l ++ ms))) else .stuck
    | _ => .stuck
  | _, _ => .stuck
theorem ms_ext : MtS K mg cExt rExtend := by
  intro W φ χ ψ μ σ H o ds x xs Q m ro rs p
  unfold cExt at p
  split at p
  · rename_i c ms
    split at p
    · rename_i l hl
      obtain ⟨hc, p⟩ := Post.ite p
      simp only [Bool.and_eq_true, decide_eq_true_eq] at hc
      obtain ⟨a, ys, ha, rfl, q, ry⟩ := cell_lst m ro hl
      obtain ⟨y, rfl, b, zs, rfl, nb, qb, rz⟩ := rs.one
      refine ⟨a, b, ys, zs, rfl, rfl, q, qb, line_le (by rw [ry.length, rz.length]; exact hc.2), ?_⟩
      exact cell_put m ha q (ry.append (noLs_rp hc.1 rz)) (d := .non) rfl p
    · exact p.elim
  · exact p.elim
/-- whole numbers alone -/
def intsD : List D → Option (List Int)
  | [] => some []
  | .int i :: l => (intsD l).map fun r => i :: r
  | _ => none
theorem intsD_rp {φ χ : List Addr} {H : Hp} : ∀ {ds : List D} {xs : List V} {ns : List Int}, RpL K φ χ H ds xs → intsD ds = some ns → xs = ns.map V.int ∧ ds = ns.map D.int
  | [], _, _, r, e => by
    cases r
    simp only [intsD, Option.some.injEq] at e
    subst e
    exact ⟨rfl, rfl⟩
  | d :: ds, _, ns, r, e => by
    obtain ⟨x, ys, rfl, h1, h2⟩ := r
    cases d with
    | int i =>
      simp only [intsD, Option.map_eq_some_iff] at e
      obtain ⟨ms, e1, rfl⟩ := e
      obtain ⟨e2, e3⟩ := intsD_rp h2 e1
      cases h1
      exact ⟨by rw [e2]; rfl, by rw [e3]; rfl⟩
    | _ => simp [intsD] at e
def remI (k : Int) (ns : List Int) : Option Nat := ns.findIdx? fun z => decide (z = k)
def cRem (o : D) (ds : List D) (μ : Mem) : R D := match o, ds with
  | .ptr c, [.int k] => match μ[c]? with
    | some (.lst l) => match intsD l with
      | some ns => match remI k ns with
        | some j => .ok .non (μ.set c (.lst ((ns.eraseIdx j).map .int)))
        | none => .stuck
      | none => .stuck
    | _ => .stuck
  | _, _ => .stuck
theorem remI_at {k : Int} {ns : List Int} {j : Nat} (h : remI k ns = some j) : ns[j]? = some k ∧ ∀ m : Nat, m < j → ns[m]? ≠ some k := by
  unfold remI at h
  rw [List.findIdx?_eq_some_iff_getElem] at h
  obtain ⟨hj, e, n⟩ := h
  refine ⟨by rw [List.getElem?_eq_getElem hj]; simpa using e, fun m hm e2 => ?_⟩
  have hl : m < ns.length := Nat.lt_trans hm hj
  have := n m hm
  rw [List.getElem?_eq_getElem hl] at e2
  simp at this e2
  exact this e2
theorem ms_rem : MtS K mg cRem rRemI := by
  intro W φ χ ψ μ σ H o ds x xs Q m ro rs p
  unfold cRem at p
  split at p
  · rename_i c k
    split at p
    · rename_i l hl
      split at p
      · rename_i ns hns
        split at p
        · rename_i j hj
          obtain ⟨a, ys, ha, rfl, q, ry⟩ := cell_lst m ro hl
          obtain ⟨y, rfl, ey⟩ := rs.one
          cases ey
          obtain ⟨e1, e2⟩ := intsD_rp ry hns
          subst e1
          obtain ⟨h1, h2⟩ := remI_at hj
          exact ⟨a, ns, k, j, rfl, rfl, q, h1, h2, cell_put m ha q (ints_rp _) (d := .non) rfl p⟩
        · exact p.elim
      · exact p.elim
    · exact p.elim
  · exact p.elim
end
/-! ### o[k] = e -/
/-- the store of d in the cell o at k -/
def csetF (o k d : D) (μ : Mem) : Option Mem := match o with
  | .ptr c => match μ[c]? with
    | some (.lst l) => match k with
      | .int j => if noL d = true then (setAt l j d).map fun l' => μ.set c (.lst l') else none
      | _ => none
    | some (.dic ks ds) => match keyD k with
      | some kk => if (noL d && decide (ks.length < 10000000)) = true then some (μ.set c (.dic (dputK ks kk) (dputV ks ds kk d))) else none
      | none => none
    | _ => none
  | _ => none
def sCSet (mo mk m : MV) : MS := fun η μ => liftR (m η μ) η fun d μ1 => liftR (mo η μ1) η fun o μ2 => liftR (mk η μ2) η fun k μ3 => match csetF o k d μ3 with
  | some μ4 => .nx η μ4
  | none => .stuck
theorem _root_.L2.PSet.or {X : Cx} {t u : TSet} (h : PSet X t) (h' : PSet X u) : PSet X (fun o i v H Q => t o i v H Q ∨ u o i v H Q) := fun pins s σ H o i v ov iv w Q I ro ri rv q => q.elim (h pins s σ H o i v ov iv w Q I ro ri rv) (h' pins s σ H o i v ov iv w Q I ro ri rv)
section
variable {X : Cx} {W : WX} {ω : List Nat} {e o k : Expr} {m mo mk : MV} {pos : Pos}
theorem ss_cset {spos : Pos} (hu : X.A.units + 1 < cLine) (ho : EE X W o mo) (hk : EE X W k mk) (h : EE X W e m)
    (hs : swapsWithSole [.Subscript o k spos] e pos.line X.env = pure false := by rfl) (hw : swappedStores [.Subscript o k spos] e X.env = pure none := by rfl)
    (h1 : (assignEach [.Subscript o k spos] X.env).map (·.2) = [assign (.Subscript o k spos) X.env] := by rfl)
    (ha : ∀ v, assign (.Subscript o k spos) X.env v = (do
      let ov ← holding [v] (eval o X.env)
      let iv ← holding [v, ov] (eval k X.env)
      standAt spos
      holding [v, ov, iv] (setItem ov iv v)
      release [v, ov, iv] []) := by intro _; rfl) :
    SS X W ω (.Assign [.Subscript o k spos] e pos) (sCSet mo mk m) := (ps_asg h (pg_sub ho hk (set_list.or (set_dict hu)) ha) hs hw h1).imp fun D σ H q => by
  obtain ⟨φ, χ, ψ0, ψ, μ, η, r, p⟩ := q
  refine rdS_bind r p fun φ1 H1 μ1 d y g1 r1 ry p1 => ?_
  refine rdS_bind r1 p1 fun φ2 H2 μ2 od oy g2 r2 ro p2 => ?_
  refine rdS_bind r2 p2 fun φ3 H3 μ3 kd ky g3 r3 rk p3 => ?_
  have rd := (g2.trans g3).rp ry
  have ro := g3.rp ro
  split at p3
  · rename_i μ4 hc
    unfold csetF at hc
    split at hc
    · rename_i c
      split at hc
      · rename_i l hl
        split at hc
        · rename_i j
          cases rk
          split at hc
          · rename_i cn
            unfold setAt at hc
            cases hn : ixN l.length j with
            | none => rw [hn] at hc; cases hc
            | some n =>
              rw [hn] at hc
              cases hc
              obtain ⟨a, xs, ha, rfl, hxs, rx⟩ := cell_lst r3.mem ro hl
              have gm : Go φ3 H3 φ3 (upd H3 a (.lst (xs.set n y))) := ⟨.mut (List.mem_of_getElem? ha) hxs trivial, .refl⟩
              have rs := RelS.cellSet (cl := .lst (l.set n d)) (u := .lst (xs.set n y)) r3 ha hxs trivial ⟨_, upd_same, gm.rpL (rx.set n (noL_rp cn rd))⟩
              exact .inl ⟨a, xs, j, n, rfl, rfl, hxs, by rw [rx.length]; exact hn, p3 σ φ3 ψ _ gm.s rs⟩
          · cases hc
        · cases hc
      · rename_i ks ds hl
        split at hc
        · rename_i kk hkk
          split at hc
          · rename_i cn
            simp only [Bool.and_eq_true, decide_eq_true_eq] at cn
            cases hc
            obtain ⟨a, ha, rfl⟩ := ro
            obtain ⟨xs, q1, hlen, rx1⟩ := r3.mem.ats _ _ a hl ha
            have ey := keyD_rp hkk rk
            subst ey
            obtain ⟨ys, e2, e3, e4⟩ := dput_rp (k := kk) (d := d) hlen rx1 (noL_rp cn.1 rd)
            refine .inr ⟨a, _, rfl, DPut.k q1 ?_, ?_⟩
            · have : (ks.zip xs).length ≤ ks.length := by simp; omega
              exact Nat.lt_of_le_of_lt this (Nat.lt_of_lt_of_le cn.2 (line_le (Nat.le_refl _)))
            · rw [e2]
              have gm : Go φ3 H3 φ3 (upd H3 a (.dK ((dputK ks kk).zip ys))) := ⟨.mut (List.mem_of_getElem? ha) q1 trivial, .refl⟩
              have rs := RelS.cellSet (cl := .dic (dputK ks kk) (dputV ks ds kk d)) (u := .dK ((dputK ks kk).zip ys)) r3 ha q1 trivial ⟨ys, upd_same, e3, gm.rpL e4⟩
              exact p3 σ φ3 ψ _ gm.s rs
          · cases hc
        · cases hc
      · cases hc
    · cases hc
  · exact p3.elim
end
/-! ### a, b = [..], y -/
/-- i an own list, j another name -/
def sParO (ω : List Nat) (i j : Nat) (ma mb : MV) : MS := fun η μ => liftR (ma η μ) η fun a μ1 => match a with
  | .lst l => liftR (mb η μ1) η fun b μ2 => if (noLs l && ω.contains i && !ω.contains j && noL b) = true then .nx ((η.set i (some (.lst l))).set j (some b)) μ2 else .stuck
  | _ => .stuck
section
variable {X : Cx} {W : WX} {ω : List Nat}
theorem ss_parO {i j : Nat} {x y : Str} {a b : Expr} {ma mb : MV} {px py pt pos : Pos} {kt k2 pt2} (hc : X.calm = true) (hN : X.N.Nodup) (hi : X.N[i]? = some x) (hj : X.N[j]? = some y) (hij : i ≠ j)
    (hx : X.env.scope.names.lookup x = some .local) (hy : X.env.scope.names.lookup y = some .local) (ha : EF X W a ma) (hb : EE X W b mb)
    (hw : swappedStores [.Tuple [.Name x px, .Name y py] kt pt] (.Tuple [a, b] k2 pt2) X.env = pure (some [x, y]) := by rfl)
    (hs : swapsWithSole [.Tuple [.Name x px, .Name y py] kt pt] (.Tuple [a, b] k2 pt2) pos.line X.env = pure false := by rfl)
    (hs1 : starEach (a :: [b]) X.env = (false, eval a X.env) :: starEach [b] X.env := by rfl) (hs2 : starEach (b :: []) X.env = (false, eval b X.env) :: starEach [] X.env := by rfl) :
    SS X W ω (.Assign [.Tuple [.Name x px, .Name y py] kt pt] (.Tuple [a, b] k2 pt2) pos) (sParO ω i j ma mb) := (ps_par hc hN hi hj hij hx hy (pa_cons ha (pa_cons hb pa_nil hs2) hs1) hw hs).imp fun D σ H q => by
  obtain ⟨φ, χ, ψ0, ψ, μ, η, r, p⟩ := q
  refine rdF_bind r p fun φ1 H1 μ1 N d v g1 r1 m1 hN rv hin p1 => ?_
  split at p1
  · rename_i l
    have rel : Rel X.K X.mg φ1 χ ((ψ0 ++ ψ) ++ N) μ1 η σ H1 := ⟨m1, r1.rel.len, r1.rel.ats⟩
    refine ⟨φ1, χ, (ψ0 ++ ψ) ++ N, μ1, η, rel, ?_⟩
    cases hB : mb η μ1 with
    | stuck => rw [hB] at p1; exact p1
    | exc e μ2 =>
      rw [hB] at p1
      exact fun cls w φ2 H2 g2 m2 rx => p1 cls w σ φ2 ψ H2 (g1.trans g2).s (r.go (g1.trans g2) m2.lessN) rx
    | ok bd μ2 =>
      rw [hB] at p1
      intro v2 φ2 H2 g2 m2 rb
      obtain ⟨c, p1⟩ : (noLs l && ω.contains i && !ω.contains j && noL bd) = true ∧ PostS X.K X.mg W ω φ χ ψ0 ψ H (.nx ((η.set i (some (.lst l))).set j (some bd)) μ2) D := by
        by_cases hcc : (noLs l && ω.contains i && !ω.contains j && noL bd) = true
        · simp only [liftR, hcc, if_true] at p1
          exact ⟨hcc, p1⟩
        · simp only [liftR, hcc, if_false] at p1
          exact p1.elim
      simp only [Bool.and_eq_true, Bool.not_eq_true'] at c
      obtain ⟨⟨⟨c1, c2⟩, c3⟩, c4⟩ := c
      have hi' : i ∈ ω := by simpa using c2
      have hj' : j ∉ ω := fun z => by simp [z] at c3
      obtain ⟨t, xs, rfl, n, q, rx⟩ := rv
      have ht : t ∈ N := hin t rfl
      have nt : t ∉ φ1 := n.1
      have q2 : H2 t = some (.lst xs) := g2.gr.keep t _ (fun z => absurd z nt) q
      have g := g1.trans g2
      have m3 : MemOk X.K X.mg φ2 (χ ++ (ψ0 ++ (t :: ψ))) μ2 H2 := m2.less fun b z => by
        simp only [List.mem_append, List.mem_cons] at z ⊢
        rcases z with z | z | rfl | z <;> simp [*]
      have rs := RelS.newOwn (i := i) (d := .lst l) r g m2.lessN hi' (hN t ht) (m2.dis t (by simp [ht])) ⟨_, q2⟩ m3 ⟨t, rfl, List.mem_cons_self, xs, q2, noLs_rp c1 (g2.rpL rx)⟩
      refine ⟨_, v2, rfl, ?_⟩
      refine p1 _ φ2 (t :: ψ) H2 ⟨⟨fun b z => ?_, fun b o hm e => g.gr.keep b o (fun z => hm (List.mem_append_left _ z)) e, g.gr.there⟩, g.ext, g.gr.pre, fun b z => ?_⟩ (rs.set hj' (noL_rp c4 rb))
      · simp only [List.mem_append, List.mem_cons] at z ⊢
        rcases z with z | rfl | z
        · exact (g.gr.pre b z).imp_left .inl
        · exact .inr (hN b ht)
        · exact .inl (.inr z)
      · rcases List.mem_cons.mp z with rfl | z
        · exact .inr (hN b ht)
        · exact .inl z
  · exact p1.elim
/-- a, b, c = x, y, z -/
def sPar3 (ω : List Nat) (i j l : Nat) (ma mb mc : MV) : MS := fun η μ => liftR (ma η μ) η fun a μ1 => liftR (mb η μ1) η fun b μ2 => liftR (mc η μ2) η fun c μ3 =>
  if (!ω.contains i && !ω.contains j && !ω.contains l && (ω.isEmpty || (noL a && noL b && noL c))) = true then .nx (((η.set i (some a)).set j (some b)).set l (some c)) μ3 else .stuck
theorem ss_par3 {i j l : Nat} {x y z : Str} {a b c : Expr} {ma mb mc : MV} {px py pz pt pos : Pos} {kt k2 pt2} (hc : X.calm = true) (hN : X.N.Nodup) (hi : X.N[i]? = some x) (hj : X.N[j]? = some y) (hl : X.N[l]? = some z) (hij : i ≠ j) (hil : i ≠ l) (hjl : j ≠ l)
    (hx : X.env.scope.names.lookup x = some .local) (hy : X.env.scope.names.lookup y = some .local) (hz : X.env.scope.names.lookup z = some .local) (ha : EE X W a ma) (hb : EE X W b mb) (hcc : EE X W c mc)
    (hw : swappedStores [.Tuple [.Name x px, .Name y py, .Name z pz] kt pt] (.Tuple [a, b, c] k2 pt2) X.env = pure (some [x, y, z]) := by rfl)
    (hs : swapsWithSole [.Tuple [.Name x px, .Name y py, .Name z pz] kt pt] (.Tuple [a, b, c] k2 pt2) pos.line X.env = pure false := by rfl)
    (hs1 : starEach (a :: [b, c]) X.env = (false, eval a X.env) :: starEach [b, c] X.env := by rfl) (hs2 : starEach (b :: [c]) X.env = (false, eval b X.env) :: starEach [c] X.env := by rfl) (hs3 : starEach (c :: []) X.env = (false, eval c X.env) :: starEach [] X.env := by rfl) :
    SS X W ω (.Assign [.Tuple [.Name x px, .Name y py, .Name z pz] kt pt] (.Tuple [a, b, c] k2 pt2) pos) (sPar3 ω i j l ma mb mc) := (ps_par3 hc hN hi hj hl hij hil hjl hx hy hz (pa_cons ha (pa_cons hb (pa_cons hcc pa_nil hs3) hs2) hs1) hw hs).imp fun D σ H q => by
  obtain ⟨φ, χ, ψ0, ψ, μ, η, r, p⟩ := q
  refine rdS_bind r p fun φ1 H1 μ1 d1 v1 g1 r1 rv1 p1 => ?_
  refine rdS_bind r1 p1 fun φ2 H2 μ2 d2 v2 g2 r2 rv2 p2 => ?_
  refine rdS_bind r2 p2 fun φ3 H3 μ3 d3 v3 g3 r3 rv3 p3 => ?_
  split at p3
  · rename_i c
    simp only [Bool.and_eq_true, Bool.not_eq_true'] at c
    obtain ⟨⟨⟨c1, c2⟩, c3⟩, c4⟩ := c
    have hi' : i ∉ ω := fun z => by simp [z] at c1
    have hj' : j ∉ ω := fun z => by simp [z] at c2
    have hl' : l ∉ ω := fun z => by simp [z] at c3
    have cc : ∀ d, (d = d1 ∨ d = d2 ∨ d = d3) → (ω.isEmpty || noL d) = true := fun d hd => by
      rcases Bool.or_eq_true _ _ ▸ c4 with h | h
      · simp [h]
      · simp only [Bool.and_eq_true] at h
        rcases hd with rfl | rfl | rfl <;> simp [h]
    refine ⟨v1, v2, v3, rfl, ?_⟩
    exact p3 _ φ3 ψ H3 .refl (((r3.set hi' (r3.sealed (cc _ (.inl rfl)) ((g2.trans g3).rp rv1))).set hj' (r3.sealed (cc _ (.inr (.inl rfl))) (g3.rp rv2))).set hl' (r3.sealed (cc _ (.inr (.inr rfl))) rv3))
  · exact p3.elim
end
/-! ### max, min -/
def bigI : List Int → Int
  | [] => 0
  | [i] => i
  | i :: l => if bigI l ≤ i then i else bigI l
def smlI : List Int → Int
  | [] => 0
  | [i] => i
  | i :: l => if i ≤ smlI l then i else smlI l
theorem bigI_is : ∀ (l : List Int), l ≠ [] → bigI l ∈ l ∧ ∀ y ∈ l, y ≤ bigI l
  | [], h => absurd rfl h
  | [i], _ => by simp [bigI]
  | i :: j :: l, _ => by
    obtain ⟨h1, h2⟩ := bigI_is (j :: l) (by simp)
    have e : bigI (i :: j :: l) = if bigI (j :: l) ≤ i then i else bigI (j :: l) := rfl
    rw [e]
    split
    · rename_i hle
      refine ⟨List.mem_cons_self, fun y hy => ?_⟩
      rcases List.mem_cons.mp hy with rfl | hy
      · exact Int.le_refl _
      · have := h2 y hy; omega
    · rename_i hle
      refine ⟨List.mem_cons_of_mem _ h1, fun y hy => ?_⟩
      rcases List.mem_cons.mp hy with rfl | hy
      · omega
      · exact h2 y hy
theorem smlI_is : ∀ (l : List Int), l ≠ [] → smlI l ∈ l ∧ ∀ y ∈ l, smlI l ≤ y
  | [], h => absurd rfl h
  | [i], _ => by simp [smlI]
  | i :: j :: l, _ => by
    obtain ⟨h1, h2⟩ := smlI_is (j :: l) (by simp)
    have e : smlI (i :: j :: l) = if i ≤ smlI (j :: l) then i else smlI (j :: l) := rfl
    rw [e]
    split
    · rename_i hle
      refine ⟨List.mem_cons_self, fun y hy => ?_⟩
      rcases List.mem_cons.mp hy with rfl | hy
      · exact Int.le_refl _
      · have := h2 y hy; omega
    · rename_i hle
      refine ⟨List.mem_cons_of_mem _ h1, fun y hy => ?_⟩
      rcases List.mem_cons.mp hy with rfl | hy
      · omega
      · exact h2 y hy
def fMax (ds : List D) (μ : Mem) : R D := match ds with
  | [.int i, .int j] => .ok (.int (if j > i then j else i)) μ
  | [d] => match (lseq μ d).bind intsD with
    | some (i :: l) => .ok (.int (bigI (i :: l))) μ
    | _ => .stuck
  | _ => .stuck
def fMin (ds : List D) (μ : Mem) : R D := match ds with
  | [.int i, .int j] => .ok (.int (if j < i then j else i)) μ
  | [d] => match (lseq μ d).bind intsD with
    | some (i :: l) => .ok (.int (smlI (i :: l))) μ
    | _ => .stuck
  | _ => .stuck
def rMaxF (K : PySem.W.Frag) : List V → Hp → VK → Prop := fun xs H Q => (∃ i j, xs = [.int i, .int j] ∧ Q (.int (if j > i then j else i)) H) ∨ rMax K xs H Q
def rMinF (K : PySem.W.Frag) : List V → Hp → VK → Prop := fun xs H Q => (∃ i j, xs = [.int i, .int j] ∧ Q (.int (if j < i then j else i)) H) ∨ rMin K xs H Q
theorem cr_maxF {X : Cx} (hc : X.calm = true) : CallR X (.builtin "max") (rMaxF X.K) := (call_max2 hc).or (cr_max hc)
theorem cr_minF {X : Cx} (hc : X.calm = true) : CallR X (.builtin "min") (rMinF X.K) := (call_min2 hc).or (cr_min hc)
theorem cs_max {K : PySem.W.Frag} {mg : Str → Option Value} : CallS K mg fMax (rMaxF K) := by
  intro W φ χ ψ μ σ H ds xs Q m r p
  unfold fMax at p
  split at p
  · rename_i i j
    obtain ⟨x, y, rfl, rx, ry⟩ := r.two
    cases rx; cases ry
    exact .inl ⟨i, j, rfl, p _ φ H .refl m rfl⟩
  · rename_i d _
    obtain ⟨x, rfl, rx⟩ := r.one
    split at p
    · rename_i i l hl
      simp only [Option.bind_eq_some_iff] at hl
      obtain ⟨es, h1, h2⟩ := hl
      obtain ⟨a, ys, rfl, hq, ry⟩ := lseq_rp m rx h1
      obtain ⟨e1, _⟩ := intsD_rp ry h2
      subst e1
      refine .inr ⟨a, i :: l, rfl, hq, by simp, fun b hb hle => ?_⟩
      obtain ⟨b1, b2⟩ := bigI_is (i :: l) (by simp)
      have e : b = bigI (i :: l) := Int.le_antisymm (b2 b hb) (hle _ b1)
      subst e
      exact p _ φ H .refl m rfl
    · exact p.elim
  · exact p.elim
theorem cs_min {K : PySem.W.Frag} {mg : Str → Option Value} : CallS K mg fMin (rMinF K) := by
  intro W φ χ ψ μ σ H ds xs Q m r p
  unfold fMin at p
  split at p
  · rename_i i j
    obtain ⟨x, y, rfl, rx, ry⟩ := r.two
    cases rx; cases ry
    exact .inl ⟨i, j, rfl, p _ φ H .refl m rfl⟩
  · rename_i d _
    obtain ⟨x, rfl, rx⟩ := r.one
    split at p
    · rename_i i l hl
      simp only [Option.bind_eq_some_iff] at hl
      obtain ⟨es, h1, h2⟩ := hl
      obtain ⟨a, ys, rfl, hq, ry⟩ := lseq_rp m rx h1
      obtain ⟨e1, _⟩ := intsD_rp ry h2
      subst e1
      refine .inr ⟨a, i :: l, rfl, hq, by simp, fun b hb hle => ?_⟩
      obtain ⟨b1, b2⟩ := smlI_is (i :: l) (by simp)
      have e : b = smlI (i :: l) := Int.le_antisymm (hle _ b1) (b2 b hb)
      subst e
      exact p _ φ H .refl m rfl
    · exact p.elim
  · exact p.elim
end FP
/-! Tok1: what is read where a token is out already: a comprehension, a call, split, replace; a def whose body is such. -/
namespace FP
open PySem PySem.Spec L2 PySem.W
open PyProof.Rows hiding St
theorem _root_.L2.PET.imp {X : Cx} {e : Expr} {t u : TE} (h : PET X e t) (f : ∀ σ H Q, u σ H Q → t σ H Q) : PET X e u := fun pins s σ H Q k I q => h pins s σ H Q k I (f σ H Q q)
section
variable {X : Cx}
/-- the iterator has come: the list is made -/
theorem list_made {pins : List (Addr × Obj)} {σ : L2.St} {H : Hp} {s : Shared} {Q : VK} {elt tg iter : Expr} {ifs : List Expr} {scope : Scope} {own : List (Str × Nat)} {pos : Pos} {g : TG} {tt : TT} {te : TE} {fp : List Addr} {it : Addr} {J : It} {tn : Nat → Heap → Prop}
    (calm : X.calm = true) (nd : X.N.Nodup) (ok : BlkOk X.N X.env.scope scope own) (I : Inv X pins σ H s) (T : Turn X.prog X.w X.K tg J fp it tn) (begins : tn 0 s.heap) (apart : ∀ b ∈ fp, FpOk X pins H b)
    (hg : ∀ (s : Shared) (H : Hp) (C : Addr) (cl : List (Str × Addr)) (fp : List Addr), PG (X.blk s H scope (compEnvC scope cl C X.env) fp) tg g)
    (ht : ∀ (s : Shared) (H : Hp) (C : Addr) (cl : List (Str × Addr)) (fp : List Addr), PTs (X.blk s H scope (compEnvC scope cl C X.env) fp) ifs tt)
    (he : ∀ (s : Shared) (H : Hp) (C : Addr) (cl : List (Str × Addr)) (fp : List Addr), PE (X.blk s H scope (compEnvC scope cl C X.env) fp) elt te)
    {Wd : Nat → Nat → Hp → Prop} {m0 : Nat} {L : Addr} (w0 : Wd 0 m0 H)
    (turn : ∀ i m H, Wd i m H → (J.stop i H ∧ Q (.ref L) H) ∨ (J.go i H ∧ ∃ Nx : Hp → Prop, (∀ H', Nx H' → ∃ m', m' < m ∧ Wd (i + 1) m' H') ∧ ∀ x H', J.yld i H x H' → g x (wipe σ (own.map (·.2))) H' fun σ2 H2 =>
      wipe σ2 (own.map (·.2)) = wipe σ (own.map (·.2)) ∧ tt σ2 H2 fun b H3 => if b = true then te σ2 H3 fun y H4 => ∃ acc, H4 L = some (.lst acc) ∧ acc.length < sizeLine ∧ Nx (upd H4 L (.lst (acc ++ [y]))) else Nx H3)) :
    let C := s.heap.objs.size
    codeAny (model X.prog X.w) X.A (.compStart (.ListComp elt [⟨tg, iter, ifs, 0⟩] scope pos) 0 (.ref it) (.ref L) (compEnvC scope (cellsFrom (C + 1) scope.names (cloFrom X.env.cells scope.names [])) C X.env))
      (compPost (model X.prog X.w) X.A X.xe none (EP X pins σ Q) (.ref L) C) { s with heap := pushCells (s.heap.push { cls := .type "dict", data := .dict #[] }) scope.names } := by
  intro C
  have small : ∀ b ∈ fp, FpOk X pins H b ∧ b < s.heap.objs.size := fun b hb => ⟨apart b hb, let ⟨_, e, _⟩ := T.obj _ _ begins b hb; Heap.lt_size e⟩
  have IB := block_start I ok nd small
  have gB := hg s H C (cellsFrom (C + 1) scope.names (cloFrom X.env.cells scope.names [])) fp
  have tB := ht s H C (cellsFrom (C + 1) scope.names (cloFrom X.env.cells scope.names [])) fp
  have eB := he s H C (cellsFrom (C + 1) scope.names (cloFrom X.env.cells scope.names [])) fp
  have locC : (compEnvC scope (cellsFrom (C + 1) scope.names (cloFrom X.env.cells scope.names [])) C X.env).locals = C := rfl
  have beginsB : tn 0 (pushCells (s.heap.push { cls := .type "dict", data := .dict #[] }) scope.names) := T.keep _ _ _ begins fun b _ o e => pushCells_keeps _ _ _ _ (Heap.get?_push_of_some _ e)
  generalize compEnvC scope (cellsFrom (C + 1) scope.names (cloFrom X.env.cells scope.names [])) C X.env = en at IB gB tB eB locC ⊢
  generalize wipe σ (own.map (·.2)) = σw at turn IB
  -- the block's own reading of «apart»
  have apB : ∀ {σ' : L2.St} {H' : Hp} {s' : Shared}, Inv (X.blk s H scope en fp) [] σ' H' s' → (∀ b ∈ fp, H' b = none) → ∀ b ∈ fp, FpOk (X.blk s H scope en fp) [] H' b := fun I' hn b hb =>
    ⟨hn b hb, (I'.ok.exf b hb).1, I'.ok.exfs b hb, .inl hb, fun x c e => (I'.ok.exf b hb).2 x c e, fun p hp => by cases hp⟩
  have loop : codeAny (model X.prog X.w) X.A (.compLoop (.ListComp elt [⟨tg, iter, ifs, 0⟩] scope pos) 0 (.ref it) (.ref L) en) (compPost (model X.prog X.w) X.A X.xe none (EP X pins σ Q) (.ref L) C)
      { s with heap := pushCells (s.heap.push { cls := .type "dict", data := .dict #[] }) scope.names } := by
    refine compLoop_any (fun n s' => ∃ i H', Inv (X.blk s H scope en fp) [] σw H' s' ∧ tn i s'.heap ∧ (∀ b ∈ fp, H' b = none) ∧ Wd i n H') (fun n s' hs' => ?_) m0 ⟨0, H, IB, beginsB, fun b hb => (apart b hb).1, w0⟩
    obtain ⟨i, Hi, Ii, ti, ni, wi⟩ := hs'
    rcases turn i n Hi wi with hstop | hgo
    · refine thnF (T.done (X.blk s H scope en fp) rfl rfl rfl calm i [] s' σw Hi (fun _ _ => False) Ii (apB Ii ni) ti hstop.1) fun r s2 hr => ?_
      obtain ⟨e, I2⟩ := hr
      subst e
      have back : Inv X pins σ Hi s2 := I.call' (ch := fp) I2.os I2.base I2.hok I2.bare fun b hb =>
        let z := apart b hb
        ⟨z.2.2.2.1, z.2.1, z.2.2.2.2.1, z.2.2.2.2.2⟩
      have noC : Hi C = none := locC ▸ I2.free
      obtain ⟨m, hm, _⟩ := I2.loc
      have fp1 : FpOk X pins Hi C := I.fpOk (Nat.le_refl _) noC
      have hm : s2.heap.Ns en.locals m := hm
      rw [locC] at hm
      exact ⟨m, hm, fun h2 sb => ⟨.ref L, Hi, back.turned (t' := s2.toks) (fun b o hb e => (sb.2 b hb).trans e) fp1.1 fp1.2.1 fp1.2.2.2.1 fp1.2.2.2.2.1 fp1.2.2.2.2.2, rfl, hstop.2⟩⟩
    · obtain ⟨go, Nx, hNx, step⟩ := hgo
      refine thnF (T.item (X.blk s H scope en fp) rfl rfl rfl calm i [] s' σw Hi (fun _ _ => False) Ii (apB Ii ni) ti go) fun r s2 hr => ?_
      obtain ⟨u, e, h2⟩ := hr
      subst e
      refine thnF h2 fun _ s3 h3 => ?_
      obtain ⟨x, H3, I3, r3, y3, t3, n3⟩ := h3
      have P3 := I3.pinned (apB I3 n3) (T.obj _ _ t3)
      refine thnF (gB.run _ s3 _ H3 x u _ P3 r3 (step x H3 y3)) fun _ s4 h4 => ?_
      obtain ⟨σ4, H4, I4, hw, q4⟩ := h4
      refine thnF (tB.run _ s4 σ4 H4 _ I4 q4) fun b s5 h5 => ?_
      obtain ⟨H5, I5, q5⟩ := h5
      have again : ∀ (s' : Shared) (H' : Hp), Inv (X.blk s H scope en fp) ([] ++ pinsAt fp s3.heap) σ4 H' s' → Nx H' → ∃ m, m < n ∧ ∃ i H', Inv (X.blk s H scope en fp) [] σw H' s' ∧ tn i s'.heap ∧ (∀ b ∈ fp, H' b = none) ∧ Wd i m H' := fun s' H' I' nx => by
        obtain ⟨m', hm, w'⟩ := hNx H' nx
        have still : ∀ b ∈ fp, ∀ o, s3.heap.get? b = some o → s'.heap.get? b = some o ∧ H' b = none := fun b hb o e => by
          have z := I'.pin (b, o) (by simp [mem_pinsAt hb e])
          exact ⟨z.1, z.2.1⟩
        refine ⟨m', hm, i + 1, H', I'.unpinned.weak (by rw [← hw, wipe_length]) (fun j v e => (wipe_some (hw ▸ e)).1), T.keep _ _ _ t3 fun b hb o e => (still b hb o e).1, fun b hb => ?_, w'⟩
        obtain ⟨o, e, _⟩ := T.obj _ _ t3 b hb
        exact (still b hb o e).2
      by_cases hb : b = true
      · rw [if_pos hb] at q5 ⊢
        refine thnF (eB.run _ s5 σ4 H5 _ I5 q5) fun z s6 h6 => ?_
        obtain ⟨y, H6, I6, r6, acc, hL, hl, nx⟩ := h6
        exact app_ok (X := X.blk s H scope en fp) I6 hL hl r6 fun s7 I7 => again s7 _ I7 nx
      · rw [if_neg hb] at q5 ⊢
        exact again s5 H5 I5 q5
  exact codeAny_compStart_list loop (T.self X.A 0 _ _ _ beginsB loop)
/-- a comprehension whose iterable wants a token -/
theorem pet_lc {elt tg iter : Expr} {ifs : List Expr} {scope : Scope} {own : List (Str × Nat)} {pos : Pos} {wi : TI} {g : TG} {tt : TT} {te : TE} (calm : X.calm = true) (nd : X.N.Nodup) (hi : PIT X tg iter wi) (ok : BlkOk X.N X.env.scope scope own)
    (hg : ∀ (s : Shared) (H : Hp) (C : Addr) (cl : List (Str × Addr)) (fp : List Addr), PG (X.blk s H scope (compEnvC scope cl C X.env) fp) tg g)
    (ht : ∀ (s : Shared) (H : Hp) (C : Addr) (cl : List (Str × Addr)) (fp : List Addr), PTs (X.blk s H scope (compEnvC scope cl C X.env) fp) ifs tt)
    (he : ∀ (s : Shared) (H : Hp) (C : Addr) (cl : List (Str × Addr)) (fp : List Addr), PE (X.blk s H scope (compEnvC scope cl C X.env) fp) elt te) (hs : ∀ x, foldedSetIterable iter X.env x = pure x := by intro _; rfl) :
    PET X (.ListComp elt [⟨tg, iter, ifs, 0⟩] scope pos) (tLc wi g tt te (own.map (·.2))) := by
  intro pins s σ H Q tok I h
  have clo : ∀ y ∈ scope.names, y.2 = .free → ∃ c, X.env.cells.lookup y.1 = some c := fun y hy e => I.ok.has _ (ok.free y hy e)
  rw [eval_ListComp]
  refine wpAny_comprehension_free (use := none) rfl hs (closure_ok clo) ok.kind (fun y hy e => (ok.uniq y hy).trans (congrArg some e)) (thn (hi pins s σ H _ tok I h) fun xv s1 hx => thn hx fun itv s2 h2 => ?_)
  obtain ⟨it, fp, tn, J, H2, e, I2, T, b2, a2, q⟩ := h2
  subst e
  have nL : H2 s2.heap.objs.size = none := I2.hok.fresh (Nat.le_refl _)
  obtain ⟨Wd, ⟨m0, w0⟩, turn⟩ := q _ nL
  refine wpAny_newObj_type (newEnv_comp ?_) (Nat.zero_le sizeLine)
  have I3 : Inv X pins σ (upd H2 s2.heap.objs.size (.lst [])) { s2 with heap := s2.heap.push { cls := .type "list", data := .seq ([] : List Value).toArray } } :=
    I2.laid (t' := s2.toks) (fun b o e => Heap.get?_push_of_some _ e) (Nat.le_refl _) ⟨Nat.zero_le _, [], 0, .nil, Heap.get?_push_size _ rfl⟩
  refine list_made (σ := σ) calm nd ok I3 T (T.keep _ _ _ b2 fun b _ o e => Heap.get?_push_of_some _ e) (fun b hb => ⟨?_, (a2 b hb).2⟩) hg ht he w0 turn
  obtain ⟨o, e, _⟩ := T.obj _ _ b2 b hb
  rw [upd_ne (Nat.ne_of_lt (Heap.lt_size e))]
  exact (a2 b hb).1
end
end FP
/-! Tok2: the combinators where a token is out. -/
namespace FP
open PySem PySem.Spec L2 PySem.W
open PyProof.Rows hiding St
abbrev EET (X : Cx) (W : WX) (e : Expr) (m : MV) : Prop := PET X e (rd X.K X.mg W (rV X.K) m)
abbrev EFT (X : Cx) (W : WX) (e : Expr) (m : MV) : Prop := PET X e (rdF X.K X.mg W m)
abbrev AAT (X : Cx) (W : WX) (es : List Expr) (m : ML) : Prop := PAT X es (rd X.K X.mg W (rL X.K) m)
abbrev IIT (X : Cx) (W : WX) (tg it : Expr) (m : MI) : Prop := PIT X tg it (rdI X.K X.mg W m)
abbrev SSsT (X : Cx) (W : WX) (ω : List Nat) (sts : List Stmt) (m : MS) : Prop := PSsT X sts (rdS X.K X.mg W ω m)
theorem _root_.L2.PAT.imp {X : Cx} {es : List Expr} {t u : TA} (h : PAT X es t) (f : ∀ σ H Q, u σ H Q → t σ H Q) : PAT X es u := fun pos pins s σ H Q k I q => h pos pins s σ H Q k I (f σ H Q q)
theorem _root_.L2.PIT.imp {X : Cx} {tg it : Expr} {t u : TI} (h : PIT X tg it t) (f : ∀ σ H Q, u σ H Q → t σ H Q) : PIT X tg it u := fun pins s σ H Q k I q => h pins s σ H Q k I (f σ H Q q)
section
variable {X : Cx} {W : WX} {e o : Expr} {es : List Expr} {m : MV} {ms : ML} {pos apos : Pos}
theorem eet_of (h : EE X W e m) : EET X W e m := fun pins s σ H Q _ I q => h.run pins s σ H Q I q
theorem aat_one (h : EET X W e m) (hs : starEach (e :: []) X.env = (false, eval e X.env) :: starEach [] X.env := by rfl) : AAT X W [e] (aCons m aNil) := (pat_cons h pat_nil hs).imp fun σ H Q q => by
  obtain ⟨φ, χ, ψ, μ, η, r, p⟩ := q
  refine rd_bind r p fun φ1 H1 μ1 d x g1 r1 rx p1 => ?_
  exact p1 [x] φ1 H1 .refl r1.mem (.cons rx .nil)
/-- e.replace(y, z), written texts -/
def kRepl (y z : Str) : D → Mem → R D := fun d μ1 => match d with
  | .str x => if x.length + (x.length + 1) * z.length ≤ 16777216 then .ok (.str (Txt.replace x y z)) μ1 else .stuck
  | _ => .stuck
def mRepl (y z : Str) (m : MV) : MV := fun η μ => (m η μ).bind (kRepl y z)
@[simp] theorem xk_repl (y z x : Str) (μ : Mem) : kRepl y z (.str x) μ = (if x.length + (x.length + 1) * z.length ≤ 16777216 then .ok (.str (Txt.replace x y z)) μ else .stuck) := (Eq.refl _).trans (Eq.refl _)
@[simp] theorem x_repl (y z : Str) (m : MV) (η : Env') (μ : Mem) : mRepl y z m η μ = (m η μ).bind (kRepl y z) := (Eq.refl _).trans (Eq.refl _)
theorem rd_repl {y z : Str} {σ : L2.St} {H : Hp} {Q : VK} (q : rd X.K X.mg W (rV X.K) (mRepl y z m) σ H Q) : CwR.tReplC (rd X.K X.mg W (rV X.K) m) y z σ H Q := by
  obtain ⟨φ, χ, ψ, μ, η, r, p⟩ := q
  refine rd_bind r p fun φ1 H1 μ1 d x g1 r1 rx p1 => ?_
  unfold kRepl at p1
  split at p1
  · rename_i t
    cases rx
    obtain ⟨c, p1⟩ := Post.ite p1
    exact ⟨t, rfl, c, p1 _ φ1 H1 .refl r1.mem rfl⟩
  · exact p1.elim
theorem eet_repl {y z : Str} {j k : Nat} {c0 c1 : Pos} (ho : EET X W o m) (hyz : (y == z) = false := by decide)
    (hst : starEach [.Constant (.str y) j c0, .Constant (.str z) k c1] X.env = [(false, eval (.Constant (.str y) j c0) X.env), (false, eval (.Constant (.str z) k c1) X.env)] := by rfl)
    (hbase : attributeBase o "replace" X.env (eval o X.env) = eval o X.env := by rfl) (hline : (apos.endLine == pos.line) = true := by rfl) :
    EET X W (.Call (.Attribute o "replace" apos) [.Constant (.str y) j c0, .Constant (.str z) k c1] [] pos) (mRepl y z m) := (CwR.pet_replT ho hyz hst hbase hline).imp fun _ _ _ q => rd_repl q
/-- e.split(z), a written text -/
def kSplit (z : Str) : D → Mem → R D := fun d μ1 => match d with
  | .str x => if (!(z.length == 0) && decide (x.length + 2 ≤ 10000000)) = true then .ok (.lst ((Txt.split x z).map .str)) μ1 else .stuck
  | _ => .stuck
def mSplit (z : Str) (m : MV) : MV := fun η μ => (m η μ).bind (kSplit z)
@[simp] theorem xk_split (z x : Str) (μ : Mem) : kSplit z (.str x) μ = (if (!(z.length == 0) && decide (x.length + 2 ≤ 10000000)) = true then .ok (.lst ((Txt.split x z).map .str)) μ else .stuck) := (Eq.refl _).trans (Eq.refl _)
@[simp] theorem x_split (z : Str) (m : MV) (η : Env') (μ : Mem) : mSplit z m η μ = (m η μ).bind (kSplit z) := (Eq.refl _).trans (Eq.refl _)
theorem strs_rp {K : PySem.W.Frag} {φ ψ : List Addr} {H : Hp} : ∀ ys : List Str, RpL K φ ψ H (ys.map D.str) (ys.map V.str)
  | [] => rfl
  | y :: ys => .cons rfl (strs_rp ys)
/-- the new list of texts -/
def tSplit (z : Str) (to : TE) : TE := fun σ H Q => to σ H fun x H1 => ∃ a, x = .str a ∧ (z.length == 0) = false ∧ a.length + 2 ≤ sizeLine ∧ rNewStrs (Txt.split a z) H1 Q
theorem pet_split {z : Str} {j : Nat} {c0 : Pos} {to : TE} (ho : PET X o to)
    (hst : starEach [.Constant (.str z) j c0] X.env = [(false, eval (.Constant (.str z) j c0) X.env)] := by rfl)
    (hbase : attributeBase o "split" X.env (eval o X.env) = eval o X.env := by rfl) (hline : (apos.endLine == pos.line) = true := by rfl) :
    PET X (.Call (.Attribute o "split" apos) [.Constant (.str z) j c0] [] pos) (tSplit z to) := by
  intro pins s σ H Q tok I h
  refine PySem.Call_method1 hbase hst hline (thn (ho pins s σ H _ tok I h) fun v s1 hv => ?_)
  obtain ⟨x, H1, I1, r1, a, ex, hz, hl, q⟩ := hv
  subst ex
  obtain ⟨t, et⟩ := r1
  subst et
  have kz : RelV (.str z) (.str z s1.toks) := ⟨_, rfl⟩
  refine ⟨"str", _, F.plainAttrs_str, F.slot_str_split, F.type_str_split, typeIs_str _ _ _, (fun _ e => nomatch e), Calls.callWith_builtin rfl (Calls.evalArgs_plain (Calls.spliced_cons (Calls.Constant_str (Calls.spliced_nil ?_))))⟩
  exact mt_split pins _ σ H1 (.str a) [.str z] _ _ Q (I1.tok _) ⟨t, rfl⟩ (.cons kz .nil) ⟨a, z, rfl, rfl, hz, hl, q⟩
theorem eft_split {z : Str} {j : Nat} {c0 : Pos} (ho : EET X W o m)
    (hst : starEach [.Constant (.str z) j c0] X.env = [(false, eval (.Constant (.str z) j c0) X.env)] := by rfl)
    (hbase : attributeBase o "split" X.env (eval o X.env) = eval o X.env := by rfl) (hline : (apos.endLine == pos.line) = true := by rfl) :
    EFT X W (.Call (.Attribute o "split" apos) [.Constant (.str z) j c0] [] pos) (mSplit z m) := (pet_split ho hst hbase hline).imp fun σ H Q q => by
  obtain ⟨φ, χ, ψ, μ, η, r, p⟩ := q
  refine ⟨φ, χ, ψ, μ, η, r, ?_⟩
  unfold mSplit at p
  cases hm : m η μ with
  | exc x μ1 => rw [hm] at p; exact p
  | stuck => rw [hm] at p; exact p
  | ok d μ1 =>
    rw [hm] at p
    simp only [FP.R.bind_ok] at p
    intro v φ1 H1 g1 m1 rv
    unfold kSplit at p
    split at p
    · rename_i x
      cases rv
      by_cases c : (!(z.length == 0) && decide (x.length + 2 ≤ 10000000)) = true
      · rw [if_pos c] at p
        simp only [Bool.and_eq_true, Bool.not_eq_true', decide_eq_true_eq] at c
        refine ⟨x, rfl, c.1, line_le c.2, fun a ha => ?_⟩
        have g2 : Go φ H φ1 (upd H1 a (.lst ((Txt.split x z).map V.str))) := g1.trans (.new ha)
        have off := Gr.off m1 ha
        have m2 : MemOk X.K X.mg φ1 (χ ++ (ψ ++ [a])) μ1 (upd H1 a (.lst ((Txt.split x z).map V.str))) := (m1.hid ha).less fun b z => by
          simp only [List.mem_append, List.mem_cons, List.not_mem_nil, or_false] at z ⊢
          rcases z with z | z | z <;> simp [z]
        refine p _ φ1 [a] _ g2 m2 (fun b hb => ?_) ⟨a, _, rfl, ⟨Gr.notin m1 ha, Gr.offχ m1 ha⟩, upd_same, strs_rp _⟩ fun b e => by cases e; simp
        have : b = a := by simpa using hb
        rw [this]
        exact none_back g1.gr ha
      · rw [if_neg c] at p; exact p.elim
    · exact p.elim
theorem eet_F (h : EFT X W e m) : EET X W e m := fun pins s σ H Q k I q => h pins s σ H Q k I (by
  obtain ⟨φ, χ, ψ, μ, η, r, p⟩ := q
  refine ⟨φ, χ, ψ, μ, η, r, ?_⟩
  cases h : m η μ with
  | ok d μ1 => rw [h] at p; exact fun v φ' N H' g m _ rp _ => p v φ' H' g m.lessN rp
  | exc x μ1 => rw [h] at p; exact p
  | stuck => rw [h] at p; exact p)
/-- what is walked is a new list -/
def kItL : D → Mem → R (List D) := fun d μ1 => match d with
  | .lst l => .ok l μ1
  | _ => .stuck
def iOfLst (m : MV) : MI := fun η μ => (m η μ).bind kItL
@[simp] theorem xk_itL (l : List D) (μ : Mem) : kItL (.lst l) μ = .ok l μ := (Eq.refl _).trans (Eq.refl _)
@[simp] theorem x_itL (m : MV) (η : Env') (μ : Mem) : iOfLst m η μ = (m η μ).bind kItL := (Eq.refl _).trans (Eq.refl _)
theorem iit_of {tg : Expr} (h : EET X W e m) : IIT X W tg e (iOfLst m) := (pit_list (tg := tg) h).imp fun σ H Q q => by
  obtain ⟨φ, χ, ψ, μ, η, rl, p⟩ := q
  refine ⟨φ, χ, ψ, μ, η, rl, ?_⟩
  cases hm : m η μ with
  | stuck => unfold iOfLst at p; rw [hm] at p; exact p.elim
  | exc x μ1 => unfold iOfLst at p; rw [hm] at p; exact p
  | ok d μ1 =>
    unfold iOfLst at p
    rw [hm] at p
    simp only [R.bind_ok] at p
    unfold kItL at p
    split at p
    · rintro v φ' H' g m' ⟨a, xs, rfl, n, h, r⟩
      exact ⟨a, rfl, ⟨xs, .of h⟩, p _ _ _ g m' (.lst n.1 n.2 (fun z => nomatch z) h r)⟩
    · exact p.elim
theorem eft_lc {elt tg iter : Expr} {ifs : List Expr} {scope : Scope} {own : List (Str × Nat)} {mi : MI} {tst : MB} {me : MV} (hc : X.calm = true) (hN : X.N.Nodup) (g : Tg) (hv : ∀ i ∈ tgIn g, i ∈ own.map (·.2)) (hi : IIT X W tg iter mi) (ok : BlkOk X.N X.env.scope scope own)
    (hg : ∀ (s : Shared) (H : Hp) (C : Addr) (cl : List (Str × Addr)) (fp : List Addr), PG (X.blk s H scope (compEnvC scope cl C X.env) fp) tg (gOf X.K g))
    (ht : ∀ (s : Shared) (H : Hp) (C : Addr) (cl : List (Str × Addr)) (fp : List Addr), PTs (X.blk s H scope (compEnvC scope cl C X.env) fp) ifs (rd X.K X.mg W0 rB tst))
    (he : ∀ (s : Shared) (H : Hp) (C : Addr) (cl : List (Str × Addr)) (fp : List Addr), PE (X.blk s H scope (compEnvC scope cl C X.env) fp) elt (rd X.K X.mg W0 (rV X.K) me))
    (hs : ∀ x, foldedSetIterable iter X.env x = pure x := by intro _; rfl) : EFT X W (.ListComp elt [⟨tg, iter, ifs, 0⟩] scope pos) (mLc mi g (own.map (·.2)) tst me) :=
  (pet_lc hc hN hi ok hg ht he hs).imp fun σ H Q q => rdF_lc hv q
theorem eft_call {x : Str} {p : Pos} {k n : Nat} {f : Addr} {fd : FuncData} {ps : List Str} {F : FN} {dds : List D} {dvs : List V} {ds : List Value} (G : FnOk X.prog X.w X.K X.mg X.base (L2.CX X.prog X.w) k f fd ps (spF X.K X.mg n F)) (hr : Room k X.A) (hm : X.mg x = some (.ref f)) (hk : PySem.W.keepIn X.K (.ref f) = true) (hb : Binds X.K fd ps ds) (hd : Vals dvs ds) (tk : Takes X W)
    (ha : AAT X W (e :: es) ms) (hdd : ∀ φ χ H, RpL X.K φ χ H dds dvs) (hg : Gl X x := by rfl) (hdb : (x == ("__debug__" : Str)) = false := by decide)
    (he : starEach (e :: es) X.env = (false, eval e X.env) :: starEach es X.env := by rfl) (hpl : (backTo pos (starEach es X.env)).any (·.1) = false := by rfl) : EFT X W (.Call (.Name x p) (e :: es) [] pos) (mFn F n dds ms) := by
  have base : PET X (.Call (.Name x p) (e :: es) [] pos) (tCallSD (spF X.K X.mg n F) dvs (WE W) (rd X.K X.mg W (rL X.K) ms)) := fun pins s σ H Q tok I h =>
    wpAny_Call_Name_kw (ld_glob I hg hm (PySem.W.callWith_K (h₀ := X.base) I.ok.mod.kin hk (thn (ha pos pins s σ H _ tok I h) fun us s1 hh =>
      let ⟨vs, H1, I1, r, q⟩ := hh
      ⟨I1.kIn, run_fnSD G hr hb hd (passAt tk σ) I1 r q⟩) he hpl) hdb)
  refine base.imp fun σ H Q q => ?_
  obtain ⟨φ, χ, ψ, μ, η, rl, p⟩ := q
  refine ⟨φ, χ, ψ, μ, η, rl, ?_⟩
  unfold mFn at p
  cases hms : ms η μ with
  | exc x' μ1 => rw [hms] at p; exact p
  | stuck => rw [hms] at p; exact p
  | ok as μ1 =>
    rw [hms] at p
    simp only [FP.R.bind_ok] at p
    split at p
    · rename_i hn
      intro xs φ1 H1 g1 m1 rx
      refine ⟨by rw [List.length_append, rx.length, (hdd φ χ H).length]; exact hn, φ1, χ, ψ, μ1, as ++ dds, m1, rx.append (hdd _ _ _), ?_⟩
      cases hF : F (as ++ dds) μ1 with
      | ok d μ2 =>
        rw [hF] at p
        exact fun v φ2 N H2 g2 m2 hN rp hi => p v φ2 N H2 (g1.trans g2) m2 (fun a z => none_back g1.gr (hN a z)) rp hi
      | exc x' μ2 =>
        rw [hF] at p
        exact fun c a φ2 H2 g2 m2 rx => p c a φ2 H2 (g1.trans g2) m2 rx
      | stuck => rw [hF] at p; exact p
    · exact p.elim
theorem retF_rd {K : PySem.W.Frag} {mg : Str → Option Value} {ω : List Nat} {mv : MV} {D : Ends} {σ : L2.St} {H : Hp} (q : rdS K mg W ω (sRetF mv) D σ H) : rdF K mg W mv σ H D.rt := by
  obtain ⟨φ, χ, ψ0, ψ, μ, η, r, p⟩ := q
  refine rdF_bind r p fun φ1 H1 μ1 N d v g1 r1 m1 hN rv hi p1 => ?_
  split at p1
  · rename_i c
    have mem : ∀ a ∈ N, a ∉ χ ++ (ψ0 ++ ψ) := fun a z => Gr.off r.mem (hN a z)
    refine p1 v φ1 (ψ ++ N) H1 ⟨⟨fun a z => ?_, fun a o hm e => g1.gr.keep a o (fun z => hm (List.mem_append_left _ z)) e, g1.gr.there⟩, g1.ext, g1.gr.pre, fun a z => ?_⟩ (by simpa [List.append_assoc] using m1) (retOk_rp c rv fun l a e1 e2 => ?_) ?_
    · simp only [List.mem_append] at z ⊢
      rcases z with z | z | z
      · exact (g1.gr.pre a z).imp_left .inl
      · exact .inl (.inr z)
      · exact .inr (hN a z)
    · rcases List.mem_append.mp z with z | z
      · exact .inl z
      · exact .inr (hN a z)
    · subst e1
      have := mem a (hi a e2)
      simp only [List.mem_append, not_or] at this ⊢
      exact ⟨this.1, this.2.1⟩
    · cases d with
      | lst l => exact fun a e => List.mem_append_right _ (hi a e)
      | dic ks l => exact fun a e => List.mem_append_right _ (hi a e)
      | _ => trivial
  · exact p1.elim
/-- return e, a new list -/
theorem sst_retF {ω : List Nat} (h : EFT X W e m) : SSsT X W ω [.Return (some e) pos] (sRetF m) := fun pins s σ H D k I q =>
  CwR.psst_one (CwR.pst_ret (pos := pos) h) pins s σ H D k I (retF_rd q)
/-- a def without cells: its body begins with a token out -/
theorem okDT {P : Program} {w : World} {K : PySem.W.Frag} {mg : Str → Option Value} {base : Heap} {x qual : Str} {st : Stmt} {f : Addr} {fd : FuncData} {N ps : List Str} {k : Nat} {ω : List Nat} {B : MS} {dvs : List V} (F : FunD K x qual (defArgs st) (defBody st) (defScope st) dvs [] f fd) (S : FnScope N ps (defScope st)) (hω : ω.all (fun i => decide (ps.length ≤ i)) = true)
    (hnc : ((defScope st).names.all fun y => !(y.2 == .cell)) = true) (hps : 1 ≤ ps.length)
    (hb : ∀ (cdv : Value) (A : Around) (outer : List Env) (s : Shared) (H : Hp) (E : XK), Room k (A.deeper (envOfC qual (defScope st) s.heap.objs.size f cdv)) →
      SSsT (cxOf (L2.CX P w) P w K mg base N qual (defScope st) f cdv A outer s H E) (fun cls d _ H => E cls d H) ω (defBody st) B) : FnOk P w K mg base (L2.CX P w) (k + 1) f fd ps (spF K mg ps.length (runF N.length B)) := by
  obtain ⟨oc, od, dV, kV, doc, pm, an, cdv, ct, osl, rfl, lk, hcd, _, _⟩ := F.ex
  refine fn_ofT lk hcd S (fun y hy e => ?_) hps (fun vs H Q E h => h.1) fun A outer s H vs Q E hr hsp => ⟨_, hb cdv A outer s H E hr, body_run S hω hsp⟩
  have := List.all_eq_true.mp hnc y hy
  rw [e] at this
  cases this
end
end FP
/-! Core17: running the newer combinators by simp. -/
namespace FP
open PySem PySem.Spec L2 PySem.W
open PyProof.Rows hiding St
section
variable (η : Env') (μ : Mem) (a b c m mo mk : MV) (ms : ML) (x y : D) (ds : List D) (i j n : Nat) (ω : List Nat)
def kNewC : D → Mem → R D := fun d μ1 => match d with
  | .lst l => if noLs l = true then .ok (.ptr μ1.length) (μ1 ++ [.lst l]) else .stuck
  | .dic ks l => if noLs l = true then .ok (.ptr μ1.length) (μ1 ++ [.dic ks l]) else .stuck
  | _ => .stuck
@[simp] theorem xk_newC : kNewC (.lst ds) μ = (if noLs ds = true then .ok (.ptr μ.length) (μ ++ [.lst ds]) else .stuck) := (Eq.refl _).trans (Eq.refl _)
@[simp] theorem x_newC : mNewC m η μ = (m η μ).bind kNewC := (Eq.refl _).trans (Eq.refl _)
def kMt2 (f : D → List D → Mem → R D) (o : D) : List D → Mem → R D := fun ds μ => f o ds μ
@[simp] theorem xk_mt2 (f : D → List D → Mem → R D) : kMt2 f x ds μ = f x ds μ := (Eq.refl _).trans (Eq.refl _)
def kMt1 (f : D → List D → Mem → R D) (ms : ML) (η : Env') : D → Mem → R D := fun o μ => match lseq μ o with
  | some _ => (ms η μ).bind (kMt2 f o)
  | none => .stuck
theorem xk_mt1 (f : D → List D → Mem → R D) {l : List D} (h : lseq μ x = some l) : kMt1 f ms η x μ = (ms η μ).bind (kMt2 f x) := by
  unfold kMt1
  rw [h]
@[simp] theorem x_mt (f : D → List D → Mem → R D) : mMt f mo ms η μ = (mo η μ).bind (kMt1 f ms η) := (Eq.refl _).trans (Eq.refl _)
def kParO2 (ω : List Nat) (i j : Nat) (l : List D) (η : Env') : D → Mem → RS := fun b μ2 => if (noLs l && ω.contains i && !ω.contains j && noL b) = true then .nx ((η.set i (some (.lst l))).set j (some b)) μ2 else .stuck
@[simp] theorem xk_parO2 (l : List D) : kParO2 ω i j l η x μ = (if (noLs l && ω.contains i && !ω.contains j && noL x) = true then .nx ((η.set i (some (.lst l))).set j (some x)) μ else .stuck) := (Eq.refl _).trans (Eq.refl _)
def kParO1 (ω : List Nat) (i j : Nat) (mb : MV) (η : Env') : D → Mem → RS := fun a μ1 => match a with
  | .lst l => liftR (mb η μ1) η (kParO2 ω i j l η)
  | _ => .stuck
@[simp] theorem xk_parO1 : kParO1 ω i j b η (.lst ds) μ = liftR (b η μ) η (kParO2 ω i j ds η) := (Eq.refl _).trans (Eq.refl _)
@[simp] theorem x_parO : sParO ω i j a b η μ = liftR (a η μ) η (kParO1 ω i j b η) := (Eq.refl _).trans (Eq.refl _)
def kPar33 (ω : List Nat) (i j l : Nat) (a b : D) (η : Env') : D → Mem → RS := fun c μ3 => if (!ω.contains i && !ω.contains j && !ω.contains l && (ω.isEmpty || (noL a && noL b && noL c))) = true then .nx (((η.set i (some a)).set j (some b)).set l (some c)) μ3 else .stuck
@[simp] theorem xk_par33 (l : Nat) (z : D) : kPar33 ω i j l x y η z μ = (if (!ω.contains i && !ω.contains j && !ω.contains l && (ω.isEmpty || (noL x && noL y && noL z))) = true then .nx (((η.set i (some x)).set j (some y)).set l (some z)) μ else .stuck) := (Eq.refl _).trans (Eq.refl _)
def kPar32 (ω : List Nat) (i j l : Nat) (mc : MV) (a : D) (η : Env') : D → Mem → RS := fun b μ2 => liftR (mc η μ2) η (kPar33 ω i j l a b η)
@[simp] theorem xk_par32 (l : Nat) : kPar32 ω i j l c x η y μ = liftR (c η μ) η (kPar33 ω i j l x y η) := (Eq.refl _).trans (Eq.refl _)
def kPar31 (ω : List Nat) (i j l : Nat) (mb mc : MV) (η : Env') : D → Mem → RS := fun a μ1 => liftR (mb η μ1) η (kPar32 ω i j l mc a η)
@[simp] theorem xk_par31 (l : Nat) : kPar31 ω i j l b c η x μ = liftR (b η μ) η (kPar32 ω i j l c x η) := (Eq.refl _).trans (Eq.refl _)
@[simp] theorem x_par3 (l : Nat) : sPar3 ω i j l a b c η μ = liftR (a η μ) η (kPar31 ω i j l b c η) := (Eq.refl _).trans (Eq.refl _)
def kCSt3 (o d : D) (η : Env') : D → Mem → RS := fun k μ3 => match csetF o k d μ3 with
  | some μ4 => .nx η μ4
  | none => .stuck
theorem xk_cst3 {o d k : D} {μ4 : Mem} (h : csetF o k d μ = some μ4) : kCSt3 o d η k μ = .nx η μ4 := by
  unfold kCSt3
  rw [h]
def kCSt2 (mk : MV) (d : D) (η : Env') : D → Mem → RS := fun o μ2 => liftR (mk η μ2) η (kCSt3 o d η)
@[simp] theorem xk_cst2 : kCSt2 mk x η y μ = liftR (mk η μ) η (kCSt3 y x η) := (Eq.refl _).trans (Eq.refl _)
def kCSt1 (mo mk : MV) (η : Env') : D → Mem → RS := fun d μ1 => liftR (mo η μ1) η (kCSt2 mk d η)
@[simp] theorem xk_cst1 : kCSt1 mo mk η x μ = liftR (mo η μ) η (kCSt2 mk x η) := (Eq.refl _).trans (Eq.refl _)
@[simp] theorem x_cset : sCSet mo mk m η μ = liftR (m η μ) η (kCSt1 mo mk η) := (Eq.refl _).trans (Eq.refl _)
end
/-! cells by number -/
section
variable {μ : Mem} {c : Nat} {l : List D}
theorem lseq_ptr (h : μ[c]? = some (.lst l)) : lseq μ (.ptr c) = some l := by
  show (match μ[c]? with | some (.lst ds) => some ds | _ => none) = _
  rw [h]
theorem aseq_ptr (h : μ[c]? = some (.lst l)) : aseq μ (.ptr c) = some l := lseq_ptr h
theorem dic_ptr (h : μ[c]? = some (.lst l)) : dicOf μ (.ptr c) = none := by
  show (match μ[c]? with | some (.dic ks ds) => some (ks, ds) | _ => none) = _
  rw [h]
theorem len_ptr (h : μ[c]? = some (.lst l)) : fLen [.ptr c] μ = .ok (.int l.length) μ := by
  show (match aseq μ (.ptr c) with | some l => R.ok (D.int (l.length : Nat)) μ | none => .stuck) = _
  rw [aseq_ptr h]
theorem ix_ptr {i : Int} {d : D} (h : μ[c]? = some (.lst l)) (hd : atD l i = some d) : fIxA (.ptr c) (.int i) μ = .ok d μ := by
  unfold fIxA
  rw [dic_ptr h]
  show (match aseq μ (.ptr c) with | some l => (match atD l i with | some d => R.ok d μ | none => .stuck) | none => .stuck) = _
  rw [aseq_ptr h, ]
  simp only [hd]
theorem at_last {α : Type} (l : List α) (x : α) : atD (l ++ [x]) (-1) = some x := by
  unfold atD
  rw [if_neg (by decide), if_pos (by simp; omega), List.length_append, List.length_singleton]
  have e : ((-1 : Int) + ((l.length + 1 : Nat) : Int)).toNat = l.length := by omega
  rw [e]
  simp
theorem at_nat {α : Type} {l : List α} {n : Nat} {x : α} (h : l[n]? = some x) : atD l (n : Nat) = some x := by
  unfold atD
  rw [if_pos (by omega), Int.toNat_natCast, h]
theorem app_ptr {d : D} (h : μ[c]? = some (.lst l)) (hd : noL d = true) (hl : l.length < 10000000) : cApp (.ptr c) [d] μ = .ok .non (μ.set c (.lst (l ++ [d]))) := by
  unfold cApp
  simp [h, hd, hl]
theorem pop_ptr {d : D} (h : μ[c]? = some (.lst (l ++ [d]))) (hd : noL d = true) : cPop (.ptr c) [] μ = .ok d (μ.set c (.lst l)) := by
  unfold cPop
  simp [h, hd]
theorem tup_ptr (h : μ[c]? = some (.lst l)) : fTuple' [.ptr c] μ = .ok (.tup l) μ := by
  unfold fTuple'
  simp only [dic_ptr h]
  unfold fTuple
  simp only [aseq_ptr h]
end
/-- the memory B stands, more behind it -/
def Pre (B μ : Mem) : Prop := ∃ J, μ = B ++ J
theorem Pre.refl {B : Mem} : Pre B B := ⟨[], by simp⟩
theorem Pre.app {B μ : Mem} (h : Pre B μ) (x : Mem) : Pre B (μ ++ x) := by
  obtain ⟨J, rfl⟩ := h
  exact ⟨J ++ x, by simp⟩
theorem Pre.trans {A B C : Mem} (h : Pre A B) (h' : Pre B C) : Pre A C := by
  obtain ⟨J, rfl⟩ := h
  obtain ⟨I, rfl⟩ := h'
  exact ⟨J ++ I, by simp⟩
theorem Pre.set {B μ : Mem} (h : Pre B μ) {i : Nat} (hi : B.length ≤ i) (x : Cell) : Pre B (μ.set i x) := by
  obtain ⟨J, rfl⟩ := h
  exact ⟨J.set (i - B.length) x, by rw [List.set_append_right _ _ hi]⟩
theorem Pre.len {B μ : Mem} (h : Pre B μ) : B.length ≤ μ.length := by
  obtain ⟨J, rfl⟩ := h
  simp
theorem Pre.get {B μ : Mem} (h : Pre B μ) {i : Nat} {x : Cell} (e : B[i]? = some x) : μ[i]? = some x := by
  obtain ⟨J, rfl⟩ := h
  rw [List.getElem?_append_left (List.getElem?_eq_some_iff.mp e).1]; exact e
end FP
namespace FP
namespace Law
open PySem PySem.Spec L2 PySem.W
open PyProof.Rows hiding St
/-- the text -/
def topS (i : Nat) : Stmt := PySem.Challenge.pw_onetongue_k01_whole_expressions_in_brack.main.body.getD i (.Pass ⟨0, 0, 0, 0⟩)
inductive Fn where
  | f_blank_words | f_sexpr_tokens | f_read_sexpr | f_sexpr_text | f_is_sexpr | f__law_next | f__law_same | f__law_drawn | f__law_text | f__law_tokens | f__law_read | f__law_whole | f__law_deep | f_law
def params : Fn → List Str
  | .f_blank_words => ["row"]
  | .f_sexpr_tokens => ["text"]
  | .f_read_sexpr => ["text"]
  | .f_sexpr_text => ["value"]
  | .f_is_sexpr => ["value", "depth"]
  | .f__law_next => ["tape", "many"]
  | .f__law_same => ["told", "due"]
  | .f__law_drawn => ["tape", "deep"]
  | .f__law_text => ["value"]
  | .f__law_tokens => ["text"]
  | .f__law_read => ["tokens", "at", "deep"]
  | .f__law_whole => ["text"]
  | .f__law_deep => ["value"]
  | .f_law => ["script"]
abbrev s_blank_words : Stmt := topS 2
abbrev N_blank_words : List Str := ["row", "word"]
theorem sc_blank_words : FnScope N_blank_words ["row"] (defScope s_blank_words) := ⟨rfl, rfl, rfl, by decide +kernel, rfl, by decide +kernel, by decide +kernel⟩
def B_blank_words (Φ : Fn → FN) : MS :=
    (sRetF (mLc (iOfLst (mSplit " " (mRepl "\t" " " (mVar 0)))) (.nm 1) [1] (mTst (mOp fNe (mVar 1) (mC (D.str "")))) (mVar 1)))
abbrev s_sexpr_tokens : Stmt := topS 3
abbrev N_sexpr_tokens : List Str := ["text"]
theorem sc_sexpr_tokens : FnScope N_sexpr_tokens ["text"] (defScope s_sexpr_tokens) := ⟨rfl, rfl, rfl, by decide +kernel, rfl, by decide +kernel, by decide +kernel⟩
def B_sexpr_tokens (Φ : Fn → FN) : MS :=
    (sRetF (mFn (Φ .f_blank_words) 1 [] (aCons (mRepl "\n" " " (mRepl ")" " ) " (mRepl "(" " ( " (mVar 0)))) aNil)))
abbrev s_read_sexpr : Stmt := topS 4
abbrev N_read_sexpr : List Str := ["text", "stack", "token", "done"]
theorem sc_read_sexpr : FnScope N_read_sexpr ["text"] (defScope s_read_sexpr) := ⟨rfl, rfl, rfl, by decide +kernel, rfl, by decide +kernel, by decide +kernel⟩
def B_read_sexpr (Φ : Fn → FN) : MS :=
    (sSeq (sCell 1 (aCons (mChk noL (mNewC (mLst aNil))) aNil))
    (sSeq (sFor [] (.nm 2) (iOf (mFn (Φ .f_sexpr_tokens) 1 [] (aCons (mVar 0) aNil))) (sSeq (sIf (mTst (mOp fEq (mVar 2) (mC (D.str "(")))) (sDrop (mMt cApp (mVar 1) (aCons (mNewC (mLst aNil)) aNil))) (sIf (mTst (mOp fNe (mVar 2) (mC (D.str ")")))) (sDrop (mMt cApp (mOp fIxA (mVar 1) (mNeg (mC (D.int 1)))) (aCons (mVar 2) aNil))) (sIf (mTst (mOp fEq (mCall fLen (aCons (mVar 1) aNil)) (mC (D.int 1)))) (sRet (mC (D.non))) (sSeq (sSet [] 3 (mCall fTuple' (aCons (mMt cPop (mVar 1) aNil) aNil)))
    (sDrop (mMt cApp (mOp fIxA (mVar 1) (mNeg (mC (D.int 1)))) (aCons (mVar 3) aNil)))))))
    (sIf (mTst (mOp fGt (mCall fLen (aCons (mVar 1) aNil)) (mC (D.int 20)))) (sRet (mC (D.non))) sNext)))
    (sRet (mIf (bAnd (mTst (mOp fEq (mCall fLen (aCons (mVar 1) aNil)) (mC (D.int 1)))) (mTst (mOp fEq (mCall fLen (aCons (mOp fIxA (mVar 1) (mC (D.int 0))) aNil)) (mC (D.int 1))))) (mOp fIxA (mOp fIxA (mVar 1) (mC (D.int 0))) (mC (D.int 0))) (mC (D.non))))))
abbrev s_sexpr_text : Stmt := topS 5
abbrev N_sexpr_text : List Str := ["value", "one"]
theorem sc_sexpr_text : FnScope N_sexpr_text ["value"] (defScope s_sexpr_text) := ⟨rfl, rfl, rfl, by decide +kernel, rfl, by decide +kernel, by decide +kernel⟩
def B_sexpr_text (Φ : Fn → FN) : MS :=
    (sSeq (sIf (mTst (mIsi (mVar 0) .str)) (sRet (mVar 0)) sNext)
    (sRet (mOp fAdd (mOp fAdd (mC (D.str "(")) (mM1 fJoin (mC (D.str " ")) (mLc (iOf (mVar 0)) (.nm 1) [1] bTrue (mFn (Φ .f_sexpr_text) 1 [] (aCons (mVar 1) aNil))))) (mC (D.str ")")))))
abbrev s_is_sexpr : Stmt := topS 6
abbrev N_is_sexpr : List Str := ["value", "depth", "one"]
theorem sc_is_sexpr : FnScope N_is_sexpr ["value", "depth"] (defScope s_is_sexpr) := ⟨rfl, rfl, rfl, by decide +kernel, rfl, by decide +kernel, by decide +kernel⟩
def B_is_sexpr (Φ : Fn → FN) : MS :=
    (sSeq (sIf (mTst (mIsi (mVar 0) .str)) (sRet (mAnd (mOp fNe (mVar 0) (mC (D.str ""))) (mNot (mCall fAny (aCons (mLc (iOf (mVar 0)) (.nm 2) [2] bTrue (mOp (fInA false) (mVar 2) (mC (D.str "() \n\t")))) aNil))))) sNext)
    (sSeq (sIf (bOr (bNot (mTst (mIsi (mVar 0) .tuple))) (mTst (mOp fGe (mVar 1) (mC (D.int 20))))) (sRet (mC (D.bl false))) sNext)
    (sRet (mCall fAll (aCons (mLc (iOf (mVar 0)) (.nm 2) [2] bTrue (mFn (Φ .f_is_sexpr) 2 [] (aCons (mVar 2) (aCons (mOp fAdd (mVar 1) (mC (D.int 1))) aNil)))) aNil)))))
abbrev s__law_next : Stmt := topS 8
abbrev N__law_next : List Str := ["tape", "many", "rest", "cell"]
theorem sc__law_next : FnScope N__law_next ["tape", "many"] (defScope s__law_next) := ⟨rfl, rfl, rfl, by decide +kernel, rfl, by decide +kernel, by decide +kernel⟩
def B__law_next (Φ : Fn → FN) : MS :=
    (sSeq (sSet [] 2 (mOp fIxA (mVar 0) (mC (D.int 2))))
    (sSeq (sIf (mTst (mOp fEq (mVar 2) (mC (D.int 0)))) (sSeq (sSet [] 3 (mC (D.int 0)))
    (sSeq (sIf (mTst (mOp fLt (mOp fIxA (mVar 0) (mC (D.int 1))) (mCall fLen (aCons (mOp fIxA (mVar 0) (mC (D.int 0))) aNil)))) (sSeq (sSet [] 3 (mCall fAbs (aCons (mCall fInt (aCons (mOp fIxA (mOp fIxA (mVar 0) (mC (D.int 0))) (mOp fIxA (mVar 0) (mC (D.int 1)))) aNil)) aNil)))
    (sCellSet 0 (mC (D.int 1)) (mOp fAdd (mOp fIxA (mVar 0) (mC (D.int 1))) (mC (D.int 1))))) sNext)
    (sSeq (sSet [] 2 (mVar 3))
    (sIf (mTst (mOp fLt (mVar 3) (mOp fPow (mC (D.int 10)) (mC (D.int 18))))) (sSeq (sCellSet 0 (mC (D.int 3)) (mOp fMod (mCall fInt (aCons (mOp fAdd (mOp fAdd (mOp fMulA (mOp fIxA (mVar 0) (mC (D.int 3))) (mC (D.int 69621))) (mOp fMulA (mVar 3) (mC (D.int 40692)))) (mC (D.int 17))) aNil)) (mC (D.int 2147483647))))
    (sRet (mOp fMod (mOp fMod (mCall fInt (aCons (mOp fMulA (mCall fInt (aCons (mOp fDiv (mOp fIxA (mVar 0) (mC (D.int 3))) (mC (D.int 5))) aNil)) (mC (D.int 48271))) aNil)) (mC (D.int 2147483647))) (mVar 1)))) sNext)))) sNext)
    (sSeq (sCellSet 0 (mC (D.int 2)) (mOp fDiv (mVar 2) (mVar 1)))
    (sRet (mOp fMod (mCall fInt (aCons (mVar 2) aNil)) (mVar 1))))))
abbrev s__law_same : Stmt := topS 9
abbrev N__law_same : List Str := ["told", "due", "k"]
theorem sc__law_same : FnScope N__law_same ["told", "due"] (defScope s__law_same) := ⟨rfl, rfl, rfl, by decide +kernel, rfl, by decide +kernel, by decide +kernel⟩
def B__law_same (Φ : Fn → FN) : MS :=
    (sSeq (sIf (mTst (mOp fIsN (mVar 1) (mC (D.non)))) (sRet (mOp fIsN (mVar 0) (mC (D.non)))) sNext)
    (sSeq (sIf (mTst (mIsi (mVar 1) .bool)) (sRet (mAnd (mIsi (mVar 0) .bool) (mOp fEq (mVar 0) (mVar 1)))) sNext)
    (sSeq (sIf (mTst (mIsi (mVar 1) .int)) (sRet (mAnd (mIsi (mVar 0) .int) (mAnd (mNot (mIsi (mVar 0) .bool)) (mOp fEq (mVar 0) (mVar 1))))) sNext)
    (sSeq (sIf (mTst (mIsi (mVar 1) .str)) (sRet (mAnd (mIsi (mVar 0) .str) (mOp fEq (mVar 0) (mVar 1)))) sNext)
    (sSeq (sIf (bOr (bAnd (mTst (mIsi (mVar 1) .list)) (bNot (mTst (mIsi (mVar 0) .list)))) (bAnd (mTst (mIsi (mVar 1) .tuple)) (bNot (mTst (mIsi (mVar 0) .tuple))))) (sRet (mC (D.bl false))) sNext)
    (sRet (mAnd (mOp fEq (mCall fLen (aCons (mVar 0) aNil)) (mCall fLen (aCons (mVar 1) aNil))) (mOp fEq (mLc (iRange1 (aCons (mCall fLen (aCons (mVar 1) aNil)) aNil)) (.nm 2) [2] (bNot (mTst (mFn (Φ .f__law_same) 2 [] (aCons (mOp fIxA (mVar 0) (mVar 2)) (aCons (mOp fIxA (mVar 1) (mVar 2)) aNil))))) (mC (D.int 1))) (mLst aNil)))))))))
abbrev s__law_drawn : Stmt := topS 10
abbrev N__law_drawn : List Str := ["tape", "deep", "k"]
theorem sc__law_drawn : FnScope N__law_drawn ["tape", "deep"] (defScope s__law_drawn) := ⟨rfl, rfl, rfl, by decide +kernel, rfl, by decide +kernel, by decide +kernel⟩
def B__law_drawn (Φ : Fn → FN) : MS :=
    (sSeq (sIf (bOr (mTst (mOp fEq (mVar 1) (mC (D.int 0)))) (mTst (mOp fEq (mFn (Φ .f__law_next) 2 [] (aCons (mVar 0) (aCons (mC (D.int 3)) aNil))) (mC (D.int 0))))) (sRet (mOp fIxA (mTup (aCons (mC (D.str "a")) (aCons (mC (D.str "b9")) (aCons (mC (D.str "=x")) (aCons (mC (D.str "$s")) (aCons (mC (D.str "12")) (aCons (mC (D.str ":=")) (aCons (mC (D.str "#")) aNil)))))))) (mFn (Φ .f__law_next) 2 [] (aCons (mVar 0) (aCons (mC (D.int 7)) aNil))))) sNext)
    (sRet (mCall fTuple' (aCons (mLc (iRange1 (aCons (mFn (Φ .f__law_next) 2 [] (aCons (mVar 0) (aCons (mC (D.int 4)) aNil))) aNil)) (.nm 2) [2] bTrue (mFn (Φ .f__law_drawn) 2 [] (aCons (mVar 0) (aCons (mOp fSub (mVar 1) (mC (D.int 1))) aNil)))) aNil))))
abbrev s__law_text : Stmt := topS 11
abbrev N__law_text : List Str := ["value", "one"]
theorem sc__law_text : FnScope N__law_text ["value"] (defScope s__law_text) := ⟨rfl, rfl, rfl, by decide +kernel, rfl, by decide +kernel, by decide +kernel⟩
def B__law_text (Φ : Fn → FN) : MS :=
    (sRet (mIf (mTst (mIsi (mVar 0) .str)) (mVar 0) (mOp fAdd (mOp fAdd (mC (D.str "(")) (mM1 fJoin (mC (D.str " ")) (mLc (iOf (mVar 0)) (.nm 1) [1] bTrue (mFn (Φ .f__law_text) 1 [] (aCons (mVar 1) aNil))))) (mC (D.str ")")))))
abbrev s__law_tokens : Stmt := topS 12
abbrev N__law_tokens : List Str := ["text", "sign", "found", "word"]
theorem sc__law_tokens : FnScope N__law_tokens ["text"] (defScope s__law_tokens) := ⟨rfl, rfl, rfl, by decide +kernel, rfl, by decide +kernel, by decide +kernel⟩
def B__law_tokens (Φ : Fn → FN) : MS :=
    (sSeq (sParO [2] 2 3 (mLst aNil) (mC (D.str "")))
    (sSeq (sFor [2] (.nm 1) (iOfN (mOp fAdd (mVar 0) (mC (D.str " ")))) (sSeq (sIf (mTst (mOp (fInA false) (mVar 1) (mC (D.str "() \n")))) (sParO [2] 2 3 (mOp fAddL (mVar 2) (mIf (mTst (mOp fNe (mVar 3) (mC (D.str "")))) (mLst (aCons (mVar 3) aNil)) (mLst aNil))) (mC (D.str ""))) (sSet [2] 3 (mOp fAdd (mVar 3) (mVar 1))))
    (sIf (mTst (mOp (fInA false) (mVar 1) (mC (D.str "()")))) (sAppend [2] 2 (mVar 1)) sNext)))
    (sRetOwn [2] 2)))
abbrev s__law_read : Stmt := topS 13
abbrev N__law_read : List Str := ["tokens", "at", "deep", "found", "one"]
theorem sc__law_read : FnScope N__law_read ["tokens", "at", "deep"] (defScope s__law_read) := ⟨rfl, rfl, rfl, by decide +kernel, rfl, by decide +kernel, by decide +kernel⟩
def B__law_read (Φ : Fn → FN) : MS :=
    (sSeq (sIf (bOr (mTst (mOp fGe (mVar 1) (mCall fLen (aCons (mVar 0) aNil)))) (bOr (mTst (mOp fEq (mOp fIxA (mVar 0) (mVar 1)) (mC (D.str ")")))) (mTst (mOp fGt (mVar 2) (mC (D.int 20)))))) (sRet (mTup (aCons (mC (D.non)) (aCons (mVar 1) aNil)))) sNext)
    (sSeq (sIf (mTst (mOp fNe (mOp fIxA (mVar 0) (mVar 1)) (mC (D.str "(")))) (sRet (mTup (aCons (mOp fIxA (mVar 0) (mVar 1)) (aCons (mOp fAdd (mVar 1) (mC (D.int 1))) aNil)))) sNext)
    (sSeq (sParO [3] 3 1 (mLst aNil) (mOp fAdd (mVar 1) (mC (D.int 1))))
    (sSeq (whileLoop (bAnd (mTst (mOp fLt (mVar 1) (mCall fLen (aCons (mVar 0) aNil)))) (mTst (mOp fNe (mOp fIxA (mVar 0) (mVar 1)) (mC (D.str ")"))))) (sSeq (sAsg [3] (.tp [4, 1]) (mFn (Φ .f__law_read) 3 [] (aCons (mVar 0) (aCons (mVar 1) (aCons (mOp fAdd (mVar 2) (mC (D.int 1))) aNil)))))
    (sSeq (sIf (mTst (mOp fIsN (mVar 4) (mC (D.non)))) (sRet (mTup (aCons (mC (D.non)) (aCons (mVar 1) aNil)))) sNext)
    (sAppend [3] 3 (mVar 4)))) 1000)
    (sRet (mIf (mTst (mOp fLt (mVar 1) (mCall fLen (aCons (mVar 0) aNil)))) (mTup (aCons (mCall fTuple' (aCons (mVar 3) aNil)) (aCons (mOp fAdd (mVar 1) (mC (D.int 1))) aNil))) (mTup (aCons (mC (D.non)) (aCons (mVar 1) aNil)))))))))
abbrev s__law_whole : Stmt := topS 14
abbrev N__law_whole : List Str := ["text", "tokens", "value", "at"]
theorem sc__law_whole : FnScope N__law_whole ["text"] (defScope s__law_whole) := ⟨rfl, rfl, rfl, by decide +kernel, rfl, by decide +kernel, by decide +kernel⟩
def B__law_whole (Φ : Fn → FN) : MS :=
    (sSeq (sSet [] 1 (mFn (Φ .f__law_tokens) 1 [] (aCons (mVar 0) aNil)))
    (sSeq (sAsg [] (.tp [2, 3]) (mFn (Φ .f__law_read) 3 [] (aCons (mVar 1) (aCons (mC (D.int 0)) (aCons (mC (D.int 1)) aNil)))))
    (sRet (mIf (mTst (mOp fEq (mVar 3) (mCall fLen (aCons (mVar 1) aNil)))) (mVar 2) (mC (D.non))))))
abbrev s__law_deep : Stmt := topS 15
abbrev N__law_deep : List Str := ["value", "one"]
theorem sc__law_deep : FnScope N__law_deep ["value"] (defScope s__law_deep) := ⟨rfl, rfl, rfl, by decide +kernel, rfl, by decide +kernel, by decide +kernel⟩
def B__law_deep (Φ : Fn → FN) : MS :=
    (sRet (mIf (mTst (mIsi (mVar 0) .str)) (mC (D.int 1)) (mOp fAdd (mC (D.int 1)) (mCall fMax (aCons (mOp fAdd (mLst (aCons (mC (D.int 0)) aNil)) (mLc (iOf (mVar 0)) (.nm 1) [1] bTrue (mFn (Φ .f__law_deep) 1 [] (aCons (mVar 1) aNil)))) aNil)))))
abbrev s_law : Stmt := topS 16
abbrev N_law : List Str := ["script", "tape", "value", "text", "loose", "turn", "k", "odd", "bent", "deep", "many", "at", "sign", "one"]
theorem sc_law : FnScope N_law ["script"] (defScope s_law) := ⟨rfl, rfl, rfl, by decide +kernel, rfl, by decide +kernel, by decide +kernel⟩
def B_law (Φ : Fn → FN) : MS :=
    (sSeq (sCell 1 (aCons (mChk retOk (mCall fList (aCons (mVar 0) aNil))) (aCons (mChk noL (mC (D.int 0))) (aCons (mChk noL (mC (D.int 0))) (aCons (mChk noL (mC (D.int 1))) aNil)))))
    (sSeq (sSet [] 2 (mFn (Φ .f__law_drawn) 2 [] (aCons (mVar 1) (aCons (mC (D.int 4)) aNil))))
    (sSeq (sSet [] 3 (mFn (Φ .f__law_text) 1 [] (aCons (mVar 2) aNil)))
    (sSeq (sSet [] 4 (mM1 fJoin (mC (D.str "")) (mLc (iOf (mVar 3)) (.nm 13) [13] bTrue (mIf (mTst (mOp (fInA false) (mVar 13) (mC (D.str "() ")))) (mOp fIxA (mTup (aCons (mVar 13) (aCons (mOp fAdd (mVar 13) (mC (D.str " "))) (aCons (mOp fAdd (mOp fAdd (mC (D.str "\n")) (mVar 13)) (mC (D.str "  "))) aNil)))) (mFn (Φ .f__law_next) 2 [] (aCons (mVar 1) (aCons (mC (D.int 3)) aNil)))) (mVar 13)))))
    (sSeq (sIf (bNot (mTst (mFn (Φ .f__law_same) 2 [] (aCons (mLst (aCons (mFn (Φ .f_sexpr_text) 1 [] (aCons (mVar 2) aNil)) (aCons (mFn (Φ .f_read_sexpr) 1 [] (aCons (mVar 3) aNil)) (aCons (mFn (Φ .f_read_sexpr) 1 [] (aCons (mVar 4) aNil)) (aCons (mFn (Φ .f_sexpr_tokens) 1 [] (aCons (mVar 4) aNil)) (aCons (mFn (Φ .f_is_sexpr) 2 [D.int 1] (aCons (mVar 2) aNil)) aNil)))))) (aCons (mLst (aCons (mVar 3) (aCons (mVar 2) (aCons (mVar 2) (aCons (mFn (Φ .f__law_tokens) 1 [] (aCons (mVar 4) aNil)) (aCons (mC (D.bl true)) aNil)))))) aNil))))) (sRet (mC (D.bl false))) sNext)
    (sSeq (sFor [] (.nm 5) (iRange1 (aCons (mC (D.int 4)) aNil)) (sSeq (sPar [] 11 12 (mFn (Φ .f__law_next) 2 [] (aCons (mVar 1) (aCons (mOp fAdd (mCall fLen (aCons (mVar 3) aNil)) (mC (D.int 1))) aNil))) (mOp fIxA (mC (D.str "() a")) (mFn (Φ .f__law_next) 2 [] (aCons (mVar 1) (aCons (mC (D.int 4)) aNil)))))
    (sSeq (sSet [] 8 (mOp fIxA (mTup (aCons (mOp fAdd (mSl (mVar 3) oNone (oSome (mVar 11))) (mSl (mVar 3) (oSome (mOp fAdd (mVar 11) (mC (D.int 1)))) oNone)) (aCons (mOp fAdd (mOp fAdd (mSl (mVar 3) oNone (oSome (mVar 11))) (mVar 12)) (mSl (mVar 3) (oSome (mVar 11)) oNone)) (aCons (mSl (mVar 3) oNone (oSome (mVar 11))) aNil)))) (mFn (Φ .f__law_next) 2 [] (aCons (mVar 1) (aCons (mC (D.int 3)) aNil)))))
    (sIf (bNot (mTst (mFn (Φ .f__law_same) 2 [] (aCons (mFn (Φ .f_read_sexpr) 1 [] (aCons (mVar 8) aNil)) (aCons (mFn (Φ .f__law_whole) 1 [] (aCons (mVar 8) aNil)) aNil))))) (sRet (mC (D.bl false))) sNext))))
    (sSeq (sPar [] 9 10 (mC (D.str "a")) (mOp fAdd (mC (D.int 15)) (mFn (Φ .f__law_next) 2 [] (aCons (mVar 1) (aCons (mC (D.int 8)) aNil)))))
    (sSeq (sFor [] (.nm 6) (iRange1 (aCons (mVar 10) aNil)) (sSet [] 9 (mTup (aCons (mVar 9) aNil))))
    (sSeq (sIf (bOr (bNot (mTst (mFn (Φ .f__law_same) 2 [] (aCons (mLst (aCons (mFn (Φ .f_is_sexpr) 2 [D.int 1] (aCons (mVar 9) aNil)) (aCons (mFn (Φ .f_read_sexpr) 1 [] (aCons (mFn (Φ .f__law_text) 1 [] (aCons (mVar 9) aNil)) aNil)) aNil))) (aCons (mLst (aCons (mOp fLe (mVar 10) (mC (D.int 19))) (aCons (mIf (mTst (mOp fLe (mVar 10) (mC (D.int 19)))) (mVar 9) (mC (D.non))) aNil))) aNil))))) (mTst (mOp fNe (mFn (Φ .f__law_deep) 1 [] (aCons (mVar 9) aNil)) (mOp fAdd (mVar 10) (mC (D.int 1)))))) (sRet (mC (D.bl false))) sNext)
    (sSeq (sSet [] 7 (mLst (aCons (mC (D.str "")) (aCons (mC (D.str "a b")) (aCons (mC (D.str "(")) (aCons (mLst (aCons (mC (D.str "a")) aNil)) (aCons (mTup (aCons (mC (D.str "a")) (aCons (mC (D.non)) aNil))) (aCons (mC (D.int 1)) (aCons (mC (D.non)) (aCons (mTup (aCons (mC (D.str "a")) (aCons (mC (D.str "")) aNil))) (aCons (mTup (aCons (mC (D.str "a\n")) aNil)) aNil)))))))))))
    (sRetF (mFn (Φ .f__law_same) 2 [] (aCons (mLst (aCons (mLc (iOf (mVar 7)) (.nm 13) [13] bTrue (mFn (Φ .f_is_sexpr) 2 [D.int 1] (aCons (mVar 13) aNil))) (aCons (mLc (iOf (mTup (aCons (mC (D.str "")) (aCons (mC (D.str ")")) (aCons (mC (D.str "a b")) (aCons (mC (D.str "() ()")) aNil)))))) (.nm 13) [13] bTrue (mFn (Φ .f_read_sexpr) 1 [] (aCons (mVar 13) aNil))) (aCons (mC (D.int 20)) aNil)))) (aCons (mLst (aCons (mOp fMulA (mLst (aCons (mC (D.bl false)) aNil)) (mC (D.int 9))) (aCons (mOp fMulA (mLst (aCons (mC (D.non)) aNil)) (mC (D.int 4))) (aCons (mC (D.int 20)) aNil)))) aNil))))))))))))))
def body (Φ : Fn → FN) : Fn → FN
  | .f_blank_words => runF N_blank_words.length (B_blank_words Φ)
  | .f_sexpr_tokens => runF N_sexpr_tokens.length (B_sexpr_tokens Φ)
  | .f_read_sexpr => runF N_read_sexpr.length (B_read_sexpr Φ)
  | .f_sexpr_text => runF N_sexpr_text.length (B_sexpr_text Φ)
  | .f_is_sexpr => runF N_is_sexpr.length (B_is_sexpr Φ)
  | .f__law_next => runF N__law_next.length (B__law_next Φ)
  | .f__law_same => runF N__law_same.length (B__law_same Φ)
  | .f__law_drawn => runF N__law_drawn.length (B__law_drawn Φ)
  | .f__law_text => runF N__law_text.length (B__law_text Φ)
  | .f__law_tokens => runF N__law_tokens.length (B__law_tokens Φ)
  | .f__law_read => runF N__law_read.length (B__law_read Φ)
  | .f__law_whole => runF N__law_whole.length (B__law_whole Φ)
  | .f__law_deep => runF N__law_deep.length (B__law_deep Φ)
  | .f_law => runF N_law.length (B_law Φ)
def Φ : Nat → Fn → FN
  | 0, _ => fun _ _ => .stuck
  | n + 1, f => body (Φ n) f
/-- what the top has left -/
structure Tab (P : Program) (w : World) (K : PySem.W.Frag) (mg : Str → Option Value) (ad : Fn → Addr) (fd : Fn → FuncData) (ce : Str → Addr) : Prop where
  F_blank_words : FunD K "blank_words" "blank_words" (defArgs s_blank_words) (defBody s_blank_words) (defScope s_blank_words) [] [] (ad .f_blank_words) (fd .f_blank_words)
  m_blank_words : mg "blank_words" = some (.ref (ad .f_blank_words))
  b_blank_words : Binds K (fd .f_blank_words) (params .f_blank_words) []
  F_sexpr_tokens : FunD K "sexpr_tokens" "sexpr_tokens" (defArgs s_sexpr_tokens) (defBody s_sexpr_tokens) (defScope s_sexpr_tokens) [] [] (ad .f_sexpr_tokens) (fd .f_sexpr_tokens)
  m_sexpr_tokens : mg "sexpr_tokens" = some (.ref (ad .f_sexpr_tokens))
  b_sexpr_tokens : Binds K (fd .f_sexpr_tokens) (params .f_sexpr_tokens) []
  F_read_sexpr : FunD K "read_sexpr" "read_sexpr" (defArgs s_read_sexpr) (defBody s_read_sexpr) (defScope s_read_sexpr) [] [] (ad .f_read_sexpr) (fd .f_read_sexpr)
  m_read_sexpr : mg "read_sexpr" = some (.ref (ad .f_read_sexpr))
  b_read_sexpr : Binds K (fd .f_read_sexpr) (params .f_read_sexpr) []
  F_sexpr_text : FunD K "sexpr_text" "sexpr_text" (defArgs s_sexpr_text) (defBody s_sexpr_text) (defScope s_sexpr_text) [] [] (ad .f_sexpr_text) (fd .f_sexpr_text)
  m_sexpr_text : mg "sexpr_text" = some (.ref (ad .f_sexpr_text))
  b_sexpr_text : Binds K (fd .f_sexpr_text) (params .f_sexpr_text) []
  F_is_sexpr : FunD K "is_sexpr" "is_sexpr" (defArgs s_is_sexpr) (defBody s_is_sexpr) (defScope s_is_sexpr) [V.int 1] [] (ad .f_is_sexpr) (fd .f_is_sexpr)
  m_is_sexpr : mg "is_sexpr" = some (.ref (ad .f_is_sexpr))
  b_is_sexpr : Binds K (fd .f_is_sexpr) (params .f_is_sexpr) []
  d1_is_sexpr : ∃ ds, Vals [V.int 1] ds ∧ Binds K (fd .f_is_sexpr) (params .f_is_sexpr) ds
  F__law_next : FunD K "_law_next" "_law_next" (defArgs s__law_next) (defBody s__law_next) (defScope s__law_next) [] [] (ad .f__law_next) (fd .f__law_next)
  m__law_next : mg "_law_next" = some (.ref (ad .f__law_next))
  b__law_next : Binds K (fd .f__law_next) (params .f__law_next) []
  F__law_same : FunD K "_law_same" "_law_same" (defArgs s__law_same) (defBody s__law_same) (defScope s__law_same) [] [] (ad .f__law_same) (fd .f__law_same)
  m__law_same : mg "_law_same" = some (.ref (ad .f__law_same))
  b__law_same : Binds K (fd .f__law_same) (params .f__law_same) []
  F__law_drawn : FunD K "_law_drawn" "_law_drawn" (defArgs s__law_drawn) (defBody s__law_drawn) (defScope s__law_drawn) [] [] (ad .f__law_drawn) (fd .f__law_drawn)
  m__law_drawn : mg "_law_drawn" = some (.ref (ad .f__law_drawn))
  b__law_drawn : Binds K (fd .f__law_drawn) (params .f__law_drawn) []
  F__law_text : FunD K "_law_text" "_law_text" (defArgs s__law_text) (defBody s__law_text) (defScope s__law_text) [] [] (ad .f__law_text) (fd .f__law_text)
  m__law_text : mg "_law_text" = some (.ref (ad .f__law_text))
  b__law_text : Binds K (fd .f__law_text) (params .f__law_text) []
  F__law_tokens : FunD K "_law_tokens" "_law_tokens" (defArgs s__law_tokens) (defBody s__law_tokens) (defScope s__law_tokens) [] [] (ad .f__law_tokens) (fd .f__law_tokens)
  m__law_tokens : mg "_law_tokens" = some (.ref (ad .f__law_tokens))
  b__law_tokens : Binds K (fd .f__law_tokens) (params .f__law_tokens) []
  F__law_read : FunD K "_law_read" "_law_read" (defArgs s__law_read) (defBody s__law_read) (defScope s__law_read) [] [] (ad .f__law_read) (fd .f__law_read)
  m__law_read : mg "_law_read" = some (.ref (ad .f__law_read))
  b__law_read : Binds K (fd .f__law_read) (params .f__law_read) []
  F__law_whole : FunD K "_law_whole" "_law_whole" (defArgs s__law_whole) (defBody s__law_whole) (defScope s__law_whole) [] [] (ad .f__law_whole) (fd .f__law_whole)
  m__law_whole : mg "_law_whole" = some (.ref (ad .f__law_whole))
  b__law_whole : Binds K (fd .f__law_whole) (params .f__law_whole) []
  F__law_deep : FunD K "_law_deep" "_law_deep" (defArgs s__law_deep) (defBody s__law_deep) (defScope s__law_deep) [] [] (ad .f__law_deep) (fd .f__law_deep)
  m__law_deep : mg "_law_deep" = some (.ref (ad .f__law_deep))
  b__law_deep : Binds K (fd .f__law_deep) (params .f__law_deep) []
  F_law : FunD K "law" "law" (defArgs s_law) (defBody s_law) (defScope s_law) [] [] (ad .f_law) (fd .f_law)
  m_law : mg "law" = some (.ref (ad .f_law))
  b_law : Binds K (fd .f_law) (params .f_law) []
  z_abs : mg "abs" = none
  z_all : mg "all" = none
  z_any : mg "any" = none
  z_bool : mg "bool" = none
  z_int : mg "int" = none
  z_isinstance : mg "isinstance" = none
  z_len : mg "len" = none
  z_list : mg "list" = none
  z_max : mg "max" = none
  z_range : mg "range" = none
  z_str : mg "str" = none
  z_tuple : mg "tuple" = none
  g_MOST_DEPTH_TEXT : ∃ t, mg "MOST_DEPTH_TEXT" = some (.int 20 t)
theorem ok_blank_words {P : Program} {w : World} {K : PySem.W.Frag} {mg : Str → Option Value} {base : Heap} {ad : Fn → Addr} {fd : Fn → FuncData} {ce : Str → Addr} {n : Nat} (T : Tab P w K mg ad fd ce) (Φ : Fn → FN) (AL : ∀ g : Fn, FnOk P w K mg base (L2.CX P w) n (ad g) (fd g) (params g) (spF K mg (params g).length (Φ g))) :
    FnOk P w K mg base (L2.CX P w) (n + 1) (ad .f_blank_words) (fd .f_blank_words) (params .f_blank_words) (spF K mg (params .f_blank_words).length (runF N_blank_words.length (B_blank_words Φ))) :=
  okDT (ω := []) T.F_blank_words sc_blank_words (by decide) (by decide +kernel) (by decide) fun cdv A outer s H E hr =>
    (sst_retF (eft_lc rfl sc_blank_words.nd (.nm 1) (own := [("word", 1)]) (by decide) (iit_of (eet_F (eft_split (eet_repl (eet_of (ee_var (pv 0))))))) (blkOk_by (own := [("word", 1)]) (N := N_blank_words) (sc := defScope s_blank_words) (by decide +kernel)) (fun _ _ _ _ _ => (pg_name (i := 1) sc_blank_words.nd rfl (Or.inl rfl))) (fun _ _ _ _ _ => (pts_one (tt_cmp (or_ne hr.units) os_ne (ee_var (pv 1)) ee_str (nomark _)))) (fun _ _ _ _ _ => (ee_var (pv 1)))))
theorem ok_sexpr_tokens {P : Program} {w : World} {K : PySem.W.Frag} {mg : Str → Option Value} {base : Heap} {ad : Fn → Addr} {fd : Fn → FuncData} {ce : Str → Addr} {n : Nat} (T : Tab P w K mg ad fd ce) (Φ : Fn → FN) (AL : ∀ g : Fn, FnOk P w K mg base (L2.CX P w) n (ad g) (fd g) (params g) (spF K mg (params g).length (Φ g))) :
    FnOk P w K mg base (L2.CX P w) (n + 1) (ad .f_sexpr_tokens) (fd .f_sexpr_tokens) (params .f_sexpr_tokens) (spF K mg (params .f_sexpr_tokens).length (runF N_sexpr_tokens.length (B_sexpr_tokens Φ))) :=
  okDT (ω := []) T.F_sexpr_tokens sc_sexpr_tokens (by decide) (by decide +kernel) (by decide) fun cdv A outer s H E hr =>
    (sst_retF (eft_call (AL .f_blank_words) hr T.m_blank_words T.F_blank_words.kp T.b_blank_words .nil (takes_of rfl rfl rfl rfl) (aat_one (eet_repl (eet_repl (eet_repl (eet_of (ee_var (pv 0))))))) (fun _ _ _ => rfl)))
theorem ok_read_sexpr {P : Program} {w : World} {K : PySem.W.Frag} {mg : Str → Option Value} {base : Heap} {ad : Fn → Addr} {fd : Fn → FuncData} {ce : Str → Addr} {n : Nat} (T : Tab P w K mg ad fd ce) (Φ : Fn → FN) (AL : ∀ g : Fn, FnOk P w K mg base (L2.CX P w) n (ad g) (fd g) (params g) (spF K mg (params g).length (Φ g))) :
    FnOk P w K mg base (L2.CX P w) (n + 1) (ad .f_read_sexpr) (fd .f_read_sexpr) (params .f_read_sexpr) (spF K mg (params .f_read_sexpr).length (runF N_read_sexpr.length (B_read_sexpr Φ))) :=
  okD (ω := []) T.F_read_sexpr sc_read_sexpr (by decide) fun cdv A outer s H E hr =>
    (sss_cons (ss_cell sc_read_sexpr.nd rfl (Or.inl rfl) (as_cons (es_of (ef_newC (ef_lst aa_nil))) as_nil))
    (sss_cons (ss_for (.nm 2) (is_of (ii_of (ef_ee (ef_call (AL .f_sexpr_tokens) hr T.m_sexpr_tokens T.F_sexpr_tokens.kp T.b_sexpr_tokens .nil (takes_of rfl rfl rfl rfl) (aa_cons (ee_var (pv 0)) aa_nil) (fun _ _ _ => rfl))))) (pg_name (i := 2) sc_read_sexpr.nd rfl (Or.inl rfl)) (sss_cons (ss_if (tt_cmp (or_eq hr.units) os_eq (ee_var (pv 2)) ee_str (nomark _)) (sss_one (ss_expr (ee_mt PySem.F.slot_list_append PySem.F.type_list_append mt_append ms_app (ee_var (pv 1)) (aa_cons (ef_newC (ef_lst aa_nil)) aa_nil)))) (sss_one (ss_if (tt_cmp (or_ne hr.units) os_ne (ee_var (pv 2)) ee_str (nomark _)) (sss_one (ss_expr (ee_mt PySem.F.slot_list_append PySem.F.type_list_append mt_append ms_app (ee_ixA (units1 hr) (ee_var (pv 1)) (ee_neg ee_int)) (aa_cons (ee_var (pv 2)) aa_nil)))) (sss_one (ss_if (tt_cmp (or_eq hr.units) os_eq (ee_callB call_len cs_len T.z_len (aa_cons (ee_var (pv 1)) aa_nil)) ee_int (nomark _)) (sss_one (ss_ret ee_non)) (sss_cons (ss_set sc_read_sexpr.nd rfl (Or.inl rfl) (ee_callTy (or_tuple rfl) cs_tuple' T.z_tuple (aa_cons (ee_mt0 PySem.F.slot_list_pop PySem.F.type_list_pop mt_pop ms_pop (ee_var (pv 1))) aa_nil)))
    (sss_one (ss_expr (ee_mt PySem.F.slot_list_append PySem.F.type_list_append mt_append ms_app (ee_ixA (units1 hr) (ee_var (pv 1)) (ee_neg ee_int)) (aa_cons (ee_var (pv 3)) aa_nil))))))))))
    (sss_one (ss_if (tt_cmp or_gt os_cmp (ee_callB call_len cs_len T.z_len (aa_cons (ee_var (pv 1)) aa_nil)) (ee_c (pe_glob (v := .int 20) (by rfl) T.g_MOST_DEPTH_TEXT.choose_spec ⟨_, rfl⟩) (fun _ _ _ => rfl)) (nomark _)) (sss_one (ss_ret ee_non)) sss_nil))) (passes_of rfl) rfl)
    (sss_one (ss_ret (ee_if (tt_of (ww_and (tt_cmp (or_eq hr.units) os_eq (ee_callB call_len cs_len T.z_len (aa_cons (ee_var (pv 1)) aa_nil)) ee_int (nomark _)) (ww_and1 (tt_cmp (or_eq hr.units) os_eq (ee_callB call_len cs_len T.z_len (aa_cons (ee_ixA (units1 hr) (ee_var (pv 1)) ee_int) aa_nil)) ee_int (nomark _))))) (ee_ixA (units1 hr) (ee_ixA (units1 hr) (ee_var (pv 1)) ee_int) ee_int) ee_non)))))
theorem ok_sexpr_text {P : Program} {w : World} {K : PySem.W.Frag} {mg : Str → Option Value} {base : Heap} {ad : Fn → Addr} {fd : Fn → FuncData} {ce : Str → Addr} {n : Nat} (T : Tab P w K mg ad fd ce) (Φ : Fn → FN) (AL : ∀ g : Fn, FnOk P w K mg base (L2.CX P w) n (ad g) (fd g) (params g) (spF K mg (params g).length (Φ g))) :
    FnOk P w K mg base (L2.CX P w) (n + 1) (ad .f_sexpr_text) (fd .f_sexpr_text) (params .f_sexpr_text) (spF K mg (params .f_sexpr_text).length (runF N_sexpr_text.length (B_sexpr_text Φ))) :=
  okD (ω := []) T.F_sexpr_text sc_sexpr_text (by decide) fun cdv A outer s H E hr =>
    (sss_cons (ss_if (tt_val (ee_isi .str (ee_var (pv 0)) T.z_isinstance T.z_str)) (sss_one (ss_ret (ee_var (pv 0)))) sss_nil)
    (sss_one (ss_ret (ee_add (ee_add ee_str (ee_join ee_str (ee_lc rfl sc_sexpr_text.nd (.nm 1) (own := [("one", 1)]) (by decide) (ii_of (ee_var (pv 0))) (blkOk_by (own := [("one", 1)]) (N := N_sexpr_text) (sc := defScope s_sexpr_text) (by decide +kernel)) (fun _ _ _ _ _ => (pg_name (i := 1) sc_sexpr_text.nd rfl (Or.inl rfl))) (fun _ _ _ _ _ => pts_yes) (fun _ _ _ _ _ => (ef_ee (ef_call (AL .f_sexpr_text) hr T.m_sexpr_text T.F_sexpr_text.kp T.b_sexpr_text .nil takes0 (aa_cons (ee_var (pv 1)) aa_nil) (fun _ _ _ => rfl))))))) ee_str))))
theorem ok_is_sexpr {P : Program} {w : World} {K : PySem.W.Frag} {mg : Str → Option Value} {base : Heap} {ad : Fn → Addr} {fd : Fn → FuncData} {ce : Str → Addr} {n : Nat} (T : Tab P w K mg ad fd ce) (Φ : Fn → FN) (AL : ∀ g : Fn, FnOk P w K mg base (L2.CX P w) n (ad g) (fd g) (params g) (spF K mg (params g).length (Φ g))) :
    FnOk P w K mg base (L2.CX P w) (n + 1) (ad .f_is_sexpr) (fd .f_is_sexpr) (params .f_is_sexpr) (spF K mg (params .f_is_sexpr).length (runF N_is_sexpr.length (B_is_sexpr Φ))) :=
  okD (ω := []) T.F_is_sexpr sc_is_sexpr (by decide) fun cdv A outer s H E hr =>
    (sss_cons (ss_if (tt_val (ee_isi .str (ee_var (pv 0)) T.z_isinstance T.z_str)) (sss_one (ss_ret (ee_and (ee_cmp (or_ne hr.units) os_ne (ee_var (pv 0)) ee_str (nomark _)) (ee_one (ee_not (ee_callB (cr_any rfl) cs_any T.z_any (aa_cons (ee_lc rfl sc_is_sexpr.nd (.nm 2) (own := [("one", 2)]) (by decide) (ii_of (ee_var (pv 0))) (blkOk_by (own := [("one", 2)]) (N := N_is_sexpr) (sc := defScope s_is_sexpr) (by decide +kernel)) (fun _ _ _ _ _ => (pg_name (i := 2) sc_is_sexpr.nd rfl (Or.inl rfl))) (fun _ _ _ _ _ => pts_yes) (fun _ _ _ _ _ => (ee_in (units1 hr) (ee_var (pv 2)) ee_str))) aa_nil))))))) sss_nil)
    (sss_cons (ss_if (tt_of (ww_or (tt_not (tt_val (ee_isi .tuple (ee_var (pv 0)) T.z_isinstance T.z_tuple))) (ww_or1 (tt_cmp or_ge os_cmp (ee_var (pv 1)) (ee_c (pe_glob (v := .int 20) (by rfl) T.g_MOST_DEPTH_TEXT.choose_spec ⟨_, rfl⟩) (fun _ _ _ => rfl)) (nomark _))))) (sss_one (ss_ret ee_bl)) sss_nil)
    (sss_one (ss_ret (ee_callB (cr_all rfl) cs_all T.z_all (aa_cons (ee_lc rfl sc_is_sexpr.nd (.nm 2) (own := [("one", 2)]) (by decide) (ii_of (ee_var (pv 0))) (blkOk_by (own := [("one", 2)]) (N := N_is_sexpr) (sc := defScope s_is_sexpr) (by decide +kernel)) (fun _ _ _ _ _ => (pg_name (i := 2) sc_is_sexpr.nd rfl (Or.inl rfl))) (fun _ _ _ _ _ => pts_yes) (fun _ _ _ _ _ => (ef_ee (ef_call (AL .f_is_sexpr) hr T.m_is_sexpr T.F_is_sexpr.kp T.b_is_sexpr .nil takes0 (aa_cons (ee_var (pv 2)) (aa_cons (ee_add (ee_var (pv 1)) ee_int) aa_nil)) (fun _ _ _ => rfl))))) aa_nil))))))
theorem ok__law_next {P : Program} {w : World} {K : PySem.W.Frag} {mg : Str → Option Value} {base : Heap} {ad : Fn → Addr} {fd : Fn → FuncData} {ce : Str → Addr} {n : Nat} (T : Tab P w K mg ad fd ce) (Φ : Fn → FN) (AL : ∀ g : Fn, FnOk P w K mg base (L2.CX P w) n (ad g) (fd g) (params g) (spF K mg (params g).length (Φ g))) :
    FnOk P w K mg base (L2.CX P w) (n + 1) (ad .f__law_next) (fd .f__law_next) (params .f__law_next) (spF K mg (params .f__law_next).length (runF N__law_next.length (B__law_next Φ))) :=
  okD (ω := []) T.F__law_next sc__law_next (by decide) fun cdv A outer s H E hr =>
    (sss_cons (ss_set sc__law_next.nd rfl (Or.inl rfl) (ee_ixA (units1 hr) (ee_var (pv 0)) ee_int))
    (sss_cons (ss_if (tt_cmp (or_eq hr.units) os_eq (ee_var (pv 2)) ee_int (nomark _)) (sss_cons (ss_set sc__law_next.nd rfl (Or.inl rfl) ee_int)
    (sss_cons (ss_if (tt_cmp or_lt os_cmp (ee_ixA (units1 hr) (ee_var (pv 0)) ee_int) (ee_callB call_len cs_len T.z_len (aa_cons (ee_ixA (units1 hr) (ee_var (pv 0)) ee_int) aa_nil)) (nomark _)) (sss_cons (ss_set sc__law_next.nd rfl (Or.inl rfl) (ee_callB call_abs cs_abs T.z_abs (aa_cons (ee_callTy call_int1 cs_int T.z_int (aa_cons (ee_ixA (units1 hr) (ee_ixA (units1 hr) (ee_var (pv 0)) ee_int) (ee_ixA (units1 hr) (ee_var (pv 0)) ee_int)) aa_nil)) aa_nil)))
    (sss_one (ss_cellSet (pv 0) ee_int (ee_add (ee_ixA (units1 hr) (ee_var (pv 0)) ee_int) ee_int)))) sss_nil)
    (sss_cons (ss_set sc__law_next.nd rfl (Or.inl rfl) (ee_var (pv 3)))
    (sss_one (ss_if (tt_cmp or_lt os_cmp (ee_var (pv 3)) (ee_pow ee_int ee_int) (nomark _)) (sss_cons (ss_cellSet (pv 0) ee_int (ee_mod (ee_callTy call_int1 cs_int T.z_int (aa_cons (ee_add (ee_add (ee_mulA (ee_ixA (units1 hr) (ee_var (pv 0)) ee_int) ee_int) (ee_mulA (ee_var (pv 3)) ee_int)) ee_int) aa_nil)) ee_int))
    (sss_one (ss_ret (ee_mod (ee_mod (ee_callTy call_int1 cs_int T.z_int (aa_cons (ee_mulA (ee_callTy call_int1 cs_int T.z_int (aa_cons (ee_div (ee_ixA (units1 hr) (ee_var (pv 0)) ee_int) ee_int) aa_nil)) ee_int) aa_nil)) ee_int) (ee_var (pv 1)))))) sss_nil))))) sss_nil)
    (sss_cons (ss_cellSet (pv 0) ee_int (ee_div (ee_var (pv 2)) (ee_var (pv 1))))
    (sss_one (ss_ret (ee_mod (ee_callTy call_int1 cs_int T.z_int (aa_cons (ee_var (pv 2)) aa_nil)) (ee_var (pv 1))))))))
theorem ok__law_same {P : Program} {w : World} {K : PySem.W.Frag} {mg : Str → Option Value} {base : Heap} {ad : Fn → Addr} {fd : Fn → FuncData} {ce : Str → Addr} {n : Nat} (T : Tab P w K mg ad fd ce) (Φ : Fn → FN) (AL : ∀ g : Fn, FnOk P w K mg base (L2.CX P w) n (ad g) (fd g) (params g) (spF K mg (params g).length (Φ g))) :
    FnOk P w K mg base (L2.CX P w) (n + 1) (ad .f__law_same) (fd .f__law_same) (params .f__law_same) (spF K mg (params .f__law_same).length (runF N__law_same.length (B__law_same Φ))) :=
  okD (ω := []) T.F__law_same sc__law_same (by decide) fun cdv A outer s H E hr =>
    (sss_cons (ss_if (tt_cmp op_isN os_isN (ee_var (pv 1)) ee_non (nomark _)) (sss_one (ss_ret (ee_cmp op_isN os_isN (ee_var (pv 0)) ee_non (nomark _)))) sss_nil)
    (sss_cons (ss_if (tt_val (ee_isi .bool (ee_var (pv 1)) T.z_isinstance T.z_bool)) (sss_one (ss_ret (ee_and (ee_isi .bool (ee_var (pv 0)) T.z_isinstance T.z_bool) (ee_one (ee_cmp (or_eq hr.units) os_eq (ee_var (pv 0)) (ee_var (pv 1)) (nomark _)))))) sss_nil)
    (sss_cons (ss_if (tt_val (ee_isi .int (ee_var (pv 1)) T.z_isinstance T.z_int)) (sss_one (ss_ret (ee_and (ee_isi .int (ee_var (pv 0)) T.z_isinstance T.z_int) (ee_and (ee_not (ee_isi .bool (ee_var (pv 0)) T.z_isinstance T.z_bool)) (ee_one (ee_cmp (or_eq hr.units) os_eq (ee_var (pv 0)) (ee_var (pv 1)) (nomark _))))))) sss_nil)
    (sss_cons (ss_if (tt_val (ee_isi .str (ee_var (pv 1)) T.z_isinstance T.z_str)) (sss_one (ss_ret (ee_and (ee_isi .str (ee_var (pv 0)) T.z_isinstance T.z_str) (ee_one (ee_cmp (or_eq hr.units) os_eq (ee_var (pv 0)) (ee_var (pv 1)) (nomark _)))))) sss_nil)
    (sss_cons (ss_if (tt_of (ww_or (tt_of (ww_and (tt_val (ee_isi .list (ee_var (pv 1)) T.z_isinstance T.z_list)) (ww_and1 (tt_not (tt_val (ee_isi .list (ee_var (pv 0)) T.z_isinstance T.z_list)))))) (ww_or1 (tt_of (ww_and (tt_val (ee_isi .tuple (ee_var (pv 1)) T.z_isinstance T.z_tuple)) (ww_and1 (tt_not (tt_val (ee_isi .tuple (ee_var (pv 0)) T.z_isinstance T.z_tuple))))))))) (sss_one (ss_ret ee_bl)) sss_nil)
    (sss_one (ss_ret (ee_and (ee_cmp (or_eq hr.units) os_eq (ee_callB call_len cs_len T.z_len (aa_cons (ee_var (pv 0)) aa_nil)) (ee_callB call_len cs_len T.z_len (aa_cons (ee_var (pv 1)) aa_nil)) (nomark _)) (ee_one (ee_cmp (or_eq hr.units) os_eq (ee_lc rfl sc__law_same.nd (.nm 2) (own := [("k", 2)]) (by decide) (in_ii (in_range1 T.z_range (aa_cons (ee_callB call_len cs_len T.z_len (aa_cons (ee_var (pv 1)) aa_nil)) aa_nil))) (blkOk_by (own := [("k", 2)]) (N := N__law_same) (sc := defScope s__law_same) (by decide +kernel)) (fun _ _ _ _ _ => (pg_name (i := 2) sc__law_same.nd rfl (Or.inl rfl))) (fun _ _ _ _ _ => (pts_one (tt_not (tt_val (ef_ee (ef_call (AL .f__law_same) hr T.m__law_same T.F__law_same.kp T.b__law_same .nil takes0 (aa_cons (ee_ixA (units1 hr) (ee_var (pv 0)) (ee_var (pv 2))) (aa_cons (ee_ixA (units1 hr) (ee_var (pv 1)) (ee_var (pv 2))) aa_nil)) (fun _ _ _ => rfl))))))) (fun _ _ _ _ _ => ee_int)) (ee_lst aa_nil) (nomark _)))))))))))
theorem ok__law_drawn {P : Program} {w : World} {K : PySem.W.Frag} {mg : Str → Option Value} {base : Heap} {ad : Fn → Addr} {fd : Fn → FuncData} {ce : Str → Addr} {n : Nat} (T : Tab P w K mg ad fd ce) (Φ : Fn → FN) (AL : ∀ g : Fn, FnOk P w K mg base (L2.CX P w) n (ad g) (fd g) (params g) (spF K mg (params g).length (Φ g))) :
    FnOk P w K mg base (L2.CX P w) (n + 1) (ad .f__law_drawn) (fd .f__law_drawn) (params .f__law_drawn) (spF K mg (params .f__law_drawn).length (runF N__law_drawn.length (B__law_drawn Φ))) :=
  okD (ω := []) T.F__law_drawn sc__law_drawn (by decide) fun cdv A outer s H E hr =>
    (sss_cons (ss_if (tt_of (ww_or (tt_cmp (or_eq hr.units) os_eq (ee_var (pv 1)) ee_int (nomark _)) (ww_or1 (tt_cmp (or_eq hr.units) os_eq (ef_ee (ef_call (AL .f__law_next) hr T.m__law_next T.F__law_next.kp T.b__law_next .nil (takes_of rfl rfl rfl rfl) (aa_cons (ee_var (pv 0)) (aa_cons ee_int aa_nil)) (fun _ _ _ => rfl))) ee_int (nomark _))))) (sss_one (ss_ret (ee_ixA (units1 hr) (ee_tup (aa_cons ee_str (aa_cons ee_str (aa_cons ee_str (aa_cons ee_str (aa_cons ee_str (aa_cons ee_str (aa_cons ee_str aa_nil)))))))) (ef_ee (ef_call (AL .f__law_next) hr T.m__law_next T.F__law_next.kp T.b__law_next .nil (takes_of rfl rfl rfl rfl) (aa_cons (ee_var (pv 0)) (aa_cons ee_int aa_nil)) (fun _ _ _ => rfl)))))) sss_nil)
    (sss_one (ss_ret (ee_callTy (or_tuple rfl) cs_tuple' T.z_tuple (aa_cons (ee_lc rfl sc__law_drawn.nd (.nm 2) (own := [("k", 2)]) (by decide) (in_ii (in_range1 T.z_range (aa_cons (ef_ee (ef_call (AL .f__law_next) hr T.m__law_next T.F__law_next.kp T.b__law_next .nil (takes_of rfl rfl rfl rfl) (aa_cons (ee_var (pv 0)) (aa_cons ee_int aa_nil)) (fun _ _ _ => rfl))) aa_nil))) (blkOk_by (own := [("k", 2)]) (N := N__law_drawn) (sc := defScope s__law_drawn) (by decide +kernel)) (fun _ _ _ _ _ => (pg_name (i := 2) sc__law_drawn.nd rfl (Or.inl rfl))) (fun _ _ _ _ _ => pts_yes) (fun _ _ _ _ _ => (ef_ee (ef_call (AL .f__law_drawn) hr T.m__law_drawn T.F__law_drawn.kp T.b__law_drawn .nil takes0 (aa_cons (ee_var (pv 0)) (aa_cons (ee_sub (ee_var (pv 1)) ee_int) aa_nil)) (fun _ _ _ => rfl))))) aa_nil)))))
theorem ok__law_text {P : Program} {w : World} {K : PySem.W.Frag} {mg : Str → Option Value} {base : Heap} {ad : Fn → Addr} {fd : Fn → FuncData} {ce : Str → Addr} {n : Nat} (T : Tab P w K mg ad fd ce) (Φ : Fn → FN) (AL : ∀ g : Fn, FnOk P w K mg base (L2.CX P w) n (ad g) (fd g) (params g) (spF K mg (params g).length (Φ g))) :
    FnOk P w K mg base (L2.CX P w) (n + 1) (ad .f__law_text) (fd .f__law_text) (params .f__law_text) (spF K mg (params .f__law_text).length (runF N__law_text.length (B__law_text Φ))) :=
  okD (ω := []) T.F__law_text sc__law_text (by decide) fun cdv A outer s H E hr =>
    (sss_one (ss_ret (ee_if (tt_val (ee_isi .str (ee_var (pv 0)) T.z_isinstance T.z_str)) (ee_var (pv 0)) (ee_add (ee_add ee_str (ee_join ee_str (ee_lc rfl sc__law_text.nd (.nm 1) (own := [("one", 1)]) (by decide) (ii_of (ee_var (pv 0))) (blkOk_by (own := [("one", 1)]) (N := N__law_text) (sc := defScope s__law_text) (by decide +kernel)) (fun _ _ _ _ _ => (pg_name (i := 1) sc__law_text.nd rfl (Or.inl rfl))) (fun _ _ _ _ _ => pts_yes) (fun _ _ _ _ _ => (ef_ee (ef_call (AL .f__law_text) hr T.m__law_text T.F__law_text.kp T.b__law_text .nil takes0 (aa_cons (ee_var (pv 1)) aa_nil) (fun _ _ _ => rfl))))))) ee_str))))
theorem ok__law_tokens {P : Program} {w : World} {K : PySem.W.Frag} {mg : Str → Option Value} {base : Heap} {ad : Fn → Addr} {fd : Fn → FuncData} {ce : Str → Addr} {n : Nat} (T : Tab P w K mg ad fd ce) (Φ : Fn → FN) (AL : ∀ g : Fn, FnOk P w K mg base (L2.CX P w) n (ad g) (fd g) (params g) (spF K mg (params g).length (Φ g))) :
    FnOk P w K mg base (L2.CX P w) (n + 1) (ad .f__law_tokens) (fd .f__law_tokens) (params .f__law_tokens) (spF K mg (params .f__law_tokens).length (runF N__law_tokens.length (B__law_tokens Φ))) :=
  okD (ω := [2]) T.F__law_tokens sc__law_tokens (by decide) fun cdv A outer s H E hr =>
    (sss_cons (ss_parO (i := 2) (j := 3) rfl sc__law_tokens.nd rfl rfl (by decide) rfl rfl (ef_lst aa_nil) ee_str)
    (sss_cons (ss_for (.nm 1) (is_ofN (in_of (ee_add (ee_var (pv 0)) ee_str))) (pg_name (i := 1) sc__law_tokens.nd rfl (Or.inl rfl)) (sss_cons (ss_if (tt_in (units1 hr) (ee_var (pv 1)) ee_str) (sss_one (ss_parO (i := 2) (j := 3) rfl sc__law_tokens.nd rfl rfl (by decide) rfl rfl (ef_add (ee_var (pv 2)) (ee_if (tt_cmp (or_ne hr.units) os_ne (ee_var (pv 3)) ee_str (nomark _)) (ee_lst (aa_cons (ee_var (pv 3)) aa_nil)) (ee_lst aa_nil))) ee_str)) (sss_one (ss_set sc__law_tokens.nd rfl (Or.inl rfl) (ee_add (ee_var (pv 3)) (ee_var (pv 1))))))
    (sss_one (ss_if (tt_in (units1 hr) (ee_var (pv 1)) ee_str) (sss_one (ss_append (pv 2) (ee_var (pv 1)) (pe_bm PySem.F.plainAttrs_list PySem.F.slot_list_append PySem.F.type_list_append mt_append (pv 2) (pa_cons (ee_var (pv 1)) pa_nil)))) sss_nil))) (passes_of rfl) rfl)
    (sss_one (ss_retOwn (pv 2)))))
theorem ok__law_read {P : Program} {w : World} {K : PySem.W.Frag} {mg : Str → Option Value} {base : Heap} {ad : Fn → Addr} {fd : Fn → FuncData} {ce : Str → Addr} {n : Nat} (T : Tab P w K mg ad fd ce) (Φ : Fn → FN) (AL : ∀ g : Fn, FnOk P w K mg base (L2.CX P w) n (ad g) (fd g) (params g) (spF K mg (params g).length (Φ g))) :
    FnOk P w K mg base (L2.CX P w) (n + 1) (ad .f__law_read) (fd .f__law_read) (params .f__law_read) (spF K mg (params .f__law_read).length (runF N__law_read.length (B__law_read Φ))) :=
  okD (ω := [3]) T.F__law_read sc__law_read (by decide) fun cdv A outer s H E hr =>
    (sss_cons (ss_if (tt_of (ww_or (tt_cmp or_ge os_cmp (ee_var (pv 1)) (ee_callB call_len cs_len T.z_len (aa_cons (ee_var (pv 0)) aa_nil)) (nomark _)) (ww_or (tt_cmp (or_eq hr.units) os_eq (ee_ixA (units1 hr) (ee_var (pv 0)) (ee_var (pv 1))) ee_str (nomark _)) (ww_or1 (tt_cmp or_gt os_cmp (ee_var (pv 2)) ee_int (nomark _)))))) (sss_one (ss_ret (ee_tup (aa_cons ee_non (aa_cons (ee_var (pv 1)) aa_nil))))) sss_nil)
    (sss_cons (ss_if (tt_cmp (or_ne hr.units) os_ne (ee_ixA (units1 hr) (ee_var (pv 0)) (ee_var (pv 1))) ee_str (nomark _)) (sss_one (ss_ret (ee_tup (aa_cons (ee_ixA (units1 hr) (ee_var (pv 0)) (ee_var (pv 1))) (aa_cons (ee_add (ee_var (pv 1)) ee_int) aa_nil))))) sss_nil)
    (sss_cons (ss_parO (i := 3) (j := 1) rfl sc__law_read.nd rfl rfl (by decide) rfl rfl (ef_lst aa_nil) (ee_add (ee_var (pv 1)) ee_int))
    (sss_cons (ss_while 1000 (tt_of (ww_and (tt_cmp or_lt os_cmp (ee_var (pv 1)) (ee_callB call_len cs_len T.z_len (aa_cons (ee_var (pv 0)) aa_nil)) (nomark _)) (ww_and1 (tt_cmp (or_ne hr.units) os_ne (ee_ixA (units1 hr) (ee_var (pv 0)) (ee_var (pv 1))) ee_str (nomark _))))) (sss_cons (ss_asg (t := (.tp [4, 1])) (ef_ee (ef_call (AL .f__law_read) hr T.m__law_read T.F__law_read.kp T.b__law_read .nil (takes_of rfl rfl rfl rfl) (aa_cons (ee_var (pv 0)) (aa_cons (ee_var (pv 1)) (aa_cons (ee_add (ee_var (pv 2)) ee_int) aa_nil))) (fun _ _ _ => rfl))) (pg_tup rfl (pgs_cons (pg_name (i := 4) sc__law_read.nd rfl (Or.inl rfl)) (pgs_cons (pg_name (i := 1) sc__law_read.nd rfl (Or.inl rfl)) pgs_nil))))
    (sss_cons (ss_if (tt_cmp op_isN os_isN (ee_var (pv 4)) ee_non (nomark _)) (sss_one (ss_ret (ee_tup (aa_cons ee_non (aa_cons (ee_var (pv 1)) aa_nil))))) sss_nil)
    (sss_one (ss_append (pv 3) (ee_var (pv 4)) (pe_bm PySem.F.plainAttrs_list PySem.F.slot_list_append PySem.F.type_list_append mt_append (pv 3) (pa_cons (ee_var (pv 4)) pa_nil)))))) (passes_of rfl))
    (sss_one (ss_ret (ee_if (tt_cmp or_lt os_cmp (ee_var (pv 1)) (ee_callB call_len cs_len T.z_len (aa_cons (ee_var (pv 0)) aa_nil)) (nomark _)) (ee_tup (aa_cons (ee_callTy (or_tuple rfl) cs_tuple' T.z_tuple (aa_cons (ee_var (pv 3)) aa_nil)) (aa_cons (ee_add (ee_var (pv 1)) ee_int) aa_nil))) (ee_tup (aa_cons ee_non (aa_cons (ee_var (pv 1)) aa_nil))))))))))
theorem ok__law_whole {P : Program} {w : World} {K : PySem.W.Frag} {mg : Str → Option Value} {base : Heap} {ad : Fn → Addr} {fd : Fn → FuncData} {ce : Str → Addr} {n : Nat} (T : Tab P w K mg ad fd ce) (Φ : Fn → FN) (AL : ∀ g : Fn, FnOk P w K mg base (L2.CX P w) n (ad g) (fd g) (params g) (spF K mg (params g).length (Φ g))) :
    FnOk P w K mg base (L2.CX P w) (n + 1) (ad .f__law_whole) (fd .f__law_whole) (params .f__law_whole) (spF K mg (params .f__law_whole).length (runF N__law_whole.length (B__law_whole Φ))) :=
  okD (ω := []) T.F__law_whole sc__law_whole (by decide) fun cdv A outer s H E hr =>
    (sss_cons (ss_set sc__law_whole.nd rfl (Or.inl rfl) (ef_ee (ef_call (AL .f__law_tokens) hr T.m__law_tokens T.F__law_tokens.kp T.b__law_tokens .nil (takes_of rfl rfl rfl rfl) (aa_cons (ee_var (pv 0)) aa_nil) (fun _ _ _ => rfl))))
    (sss_cons (ss_asg (t := (.tp [2, 3])) (ef_ee (ef_call (AL .f__law_read) hr T.m__law_read T.F__law_read.kp T.b__law_read .nil (takes_of rfl rfl rfl rfl) (aa_cons (ee_var (pv 1)) (aa_cons ee_int (aa_cons ee_int aa_nil))) (fun _ _ _ => rfl))) (pg_tup rfl (pgs_cons (pg_name (i := 2) sc__law_whole.nd rfl (Or.inl rfl)) (pgs_cons (pg_name (i := 3) sc__law_whole.nd rfl (Or.inl rfl)) pgs_nil))))
    (sss_one (ss_ret (ee_if (tt_cmp (or_eq hr.units) os_eq (ee_var (pv 3)) (ee_callB call_len cs_len T.z_len (aa_cons (ee_var (pv 1)) aa_nil)) (nomark _)) (ee_var (pv 2)) ee_non)))))
theorem ok__law_deep {P : Program} {w : World} {K : PySem.W.Frag} {mg : Str → Option Value} {base : Heap} {ad : Fn → Addr} {fd : Fn → FuncData} {ce : Str → Addr} {n : Nat} (T : Tab P w K mg ad fd ce) (Φ : Fn → FN) (AL : ∀ g : Fn, FnOk P w K mg base (L2.CX P w) n (ad g) (fd g) (params g) (spF K mg (params g).length (Φ g))) :
    FnOk P w K mg base (L2.CX P w) (n + 1) (ad .f__law_deep) (fd .f__law_deep) (params .f__law_deep) (spF K mg (params .f__law_deep).length (runF N__law_deep.length (B__law_deep Φ))) :=
  okD (ω := []) T.F__law_deep sc__law_deep (by decide) fun cdv A outer s H E hr =>
    (sss_one (ss_ret (ee_if (tt_val (ee_isi .str (ee_var (pv 0)) T.z_isinstance T.z_str)) ee_int (ee_add ee_int (ee_callB (cr_maxF rfl) cs_max T.z_max (aa_cons (ee_add (ee_lst (aa_cons ee_int aa_nil)) (ee_lc rfl sc__law_deep.nd (.nm 1) (own := [("one", 1)]) (by decide) (ii_of (ee_var (pv 0))) (blkOk_by (own := [("one", 1)]) (N := N__law_deep) (sc := defScope s__law_deep) (by decide +kernel)) (fun _ _ _ _ _ => (pg_name (i := 1) sc__law_deep.nd rfl (Or.inl rfl))) (fun _ _ _ _ _ => pts_yes) (fun _ _ _ _ _ => (ef_ee (ef_call (AL .f__law_deep) hr T.m__law_deep T.F__law_deep.kp T.b__law_deep .nil takes0 (aa_cons (ee_var (pv 1)) aa_nil) (fun _ _ _ => rfl)))))) aa_nil))))))
theorem ok_law {P : Program} {w : World} {K : PySem.W.Frag} {mg : Str → Option Value} {base : Heap} {ad : Fn → Addr} {fd : Fn → FuncData} {ce : Str → Addr} {n : Nat} (T : Tab P w K mg ad fd ce) (Φ : Fn → FN) (AL : ∀ g : Fn, FnOk P w K mg base (L2.CX P w) n (ad g) (fd g) (params g) (spF K mg (params g).length (Φ g))) :
    FnOk P w K mg base (L2.CX P w) (n + 1) (ad .f_law) (fd .f_law) (params .f_law) (spF K mg (params .f_law).length (runF N_law.length (B_law Φ))) :=
  okD (ω := []) T.F_law sc_law (by decide) fun cdv A outer s H E hr =>
    (sss_cons (ss_cell sc_law.nd rfl (Or.inr rfl) (as_cons (es_ofF (ef_list T.z_list (ee_var (pv 0)))) (as_cons (es_of ee_int) (as_cons (es_of ee_int) (as_cons (es_of ee_int) as_nil)))))
    (sss_cons (ss_set sc_law.nd rfl (Or.inl rfl) (ef_ee (ef_call (AL .f__law_drawn) hr T.m__law_drawn T.F__law_drawn.kp T.b__law_drawn .nil (takes_of rfl rfl rfl rfl) (aa_cons (ee_var (pv 1)) (aa_cons ee_int aa_nil)) (fun _ _ _ => rfl))))
    (sss_cons (ss_set sc_law.nd rfl (Or.inl rfl) (ef_ee (ef_call (AL .f__law_text) hr T.m__law_text T.F__law_text.kp T.b__law_text .nil (takes_of rfl rfl rfl rfl) (aa_cons (ee_var (pv 2)) aa_nil) (fun _ _ _ => rfl))))
    (sss_cons (ss_set sc_law.nd rfl (Or.inl rfl) (ee_join ee_str (ee_lc rfl sc_law.nd (.nm 13) (own := [("one", 13)]) (by decide) (ii_of (ee_var (pv 3))) (blkOk_by (own := [("one", 13)]) (N := N_law) (sc := defScope s_law) (by decide +kernel)) (fun _ _ _ _ _ => (pg_name (i := 13) sc_law.nd rfl (Or.inl rfl))) (fun _ _ _ _ _ => pts_yes) (fun _ _ _ _ _ => (ee_if (tt_in (units1 hr) (ee_var (pv 13)) ee_str) (ee_ixA (units1 hr) (ee_tup (aa_cons (ee_var (pv 13)) (aa_cons (ee_add (ee_var (pv 13)) ee_str) (aa_cons (ee_add (ee_add ee_str (ee_var (pv 13))) ee_str) aa_nil)))) (ef_ee (ef_call (AL .f__law_next) hr T.m__law_next T.F__law_next.kp T.b__law_next .nil takes0 (aa_cons (ee_var (pv 1)) (aa_cons ee_int aa_nil)) (fun _ _ _ => rfl)))) (ee_var (pv 13)))))))
    (sss_cons (ss_if (tt_not (tt_val (ef_ee (ef_call (AL .f__law_same) hr T.m__law_same T.F__law_same.kp T.b__law_same .nil (takes_of rfl rfl rfl rfl) (aa_cons (ee_lst (aa_cons (ef_ee (ef_call (AL .f_sexpr_text) hr T.m_sexpr_text T.F_sexpr_text.kp T.b_sexpr_text .nil (takes_of rfl rfl rfl rfl) (aa_cons (ee_var (pv 2)) aa_nil) (fun _ _ _ => rfl))) (aa_cons (ef_ee (ef_call (AL .f_read_sexpr) hr T.m_read_sexpr T.F_read_sexpr.kp T.b_read_sexpr .nil (takes_of rfl rfl rfl rfl) (aa_cons (ee_var (pv 3)) aa_nil) (fun _ _ _ => rfl))) (aa_cons (ef_ee (ef_call (AL .f_read_sexpr) hr T.m_read_sexpr T.F_read_sexpr.kp T.b_read_sexpr .nil (takes_of rfl rfl rfl rfl) (aa_cons (ee_var (pv 4)) aa_nil) (fun _ _ _ => rfl))) (aa_cons (ef_ee (ef_call (AL .f_sexpr_tokens) hr T.m_sexpr_tokens T.F_sexpr_tokens.kp T.b_sexpr_tokens .nil (takes_of rfl rfl rfl rfl) (aa_cons (ee_var (pv 4)) aa_nil) (fun _ _ _ => rfl))) (aa_cons (ef_ee (ef_call (AL .f_is_sexpr) hr T.m_is_sexpr T.F_is_sexpr.kp (T.d1_is_sexpr).choose_spec.2 (T.d1_is_sexpr).choose_spec.1 (takes_of rfl rfl rfl rfl) (aa_cons (ee_var (pv 2)) aa_nil) (fun _ _ _ => RpL.cons rfl RpL.nil))) aa_nil)))))) (aa_cons (ee_lst (aa_cons (ee_var (pv 3)) (aa_cons (ee_var (pv 2)) (aa_cons (ee_var (pv 2)) (aa_cons (ef_ee (ef_call (AL .f__law_tokens) hr T.m__law_tokens T.F__law_tokens.kp T.b__law_tokens .nil (takes_of rfl rfl rfl rfl) (aa_cons (ee_var (pv 4)) aa_nil) (fun _ _ _ => rfl))) (aa_cons ee_bl aa_nil)))))) aa_nil)) (fun _ _ _ => rfl))))) (sss_one (ss_ret ee_bl)) sss_nil)
    (sss_cons (ss_for (.nm 5) (is_of (in_ii (in_range1 T.z_range (aa_cons ee_int aa_nil)))) (pg_name (i := 5) sc_law.nd rfl (Or.inl rfl)) (sss_cons (ss_par (i := 11) (j := 12) rfl sc_law.nd rfl rfl (by decide) rfl rfl (ef_ee (ef_call (AL .f__law_next) hr T.m__law_next T.F__law_next.kp T.b__law_next .nil (takes_of rfl rfl rfl rfl) (aa_cons (ee_var (pv 1)) (aa_cons (ee_add (ee_callB call_len cs_len T.z_len (aa_cons (ee_var (pv 3)) aa_nil)) ee_int) aa_nil)) (fun _ _ _ => rfl))) (ee_ixA (units1 hr) ee_str (ef_ee (ef_call (AL .f__law_next) hr T.m__law_next T.F__law_next.kp T.b__law_next .nil (takes_of rfl rfl rfl rfl) (aa_cons (ee_var (pv 1)) (aa_cons ee_int aa_nil)) (fun _ _ _ => rfl)))))
    (sss_cons (ss_set sc_law.nd rfl (Or.inl rfl) (ee_ixA (units1 hr) (ee_tup (aa_cons (ee_add (ee_sl (ee_var (pv 3)) oo_none (oo_some (ee_var (pv 11)))) (ee_sl (ee_var (pv 3)) (oo_some (ee_add (ee_var (pv 11)) ee_int)) oo_none)) (aa_cons (ee_add (ee_add (ee_sl (ee_var (pv 3)) oo_none (oo_some (ee_var (pv 11)))) (ee_var (pv 12))) (ee_sl (ee_var (pv 3)) (oo_some (ee_var (pv 11))) oo_none)) (aa_cons (ee_sl (ee_var (pv 3)) oo_none (oo_some (ee_var (pv 11)))) aa_nil)))) (ef_ee (ef_call (AL .f__law_next) hr T.m__law_next T.F__law_next.kp T.b__law_next .nil (takes_of rfl rfl rfl rfl) (aa_cons (ee_var (pv 1)) (aa_cons ee_int aa_nil)) (fun _ _ _ => rfl)))))
    (sss_one (ss_if (tt_not (tt_val (ef_ee (ef_call (AL .f__law_same) hr T.m__law_same T.F__law_same.kp T.b__law_same .nil (takes_of rfl rfl rfl rfl) (aa_cons (ef_ee (ef_call (AL .f_read_sexpr) hr T.m_read_sexpr T.F_read_sexpr.kp T.b_read_sexpr .nil (takes_of rfl rfl rfl rfl) (aa_cons (ee_var (pv 8)) aa_nil) (fun _ _ _ => rfl))) (aa_cons (ef_ee (ef_call (AL .f__law_whole) hr T.m__law_whole T.F__law_whole.kp T.b__law_whole .nil (takes_of rfl rfl rfl rfl) (aa_cons (ee_var (pv 8)) aa_nil) (fun _ _ _ => rfl))) aa_nil)) (fun _ _ _ => rfl))))) (sss_one (ss_ret ee_bl)) sss_nil)))) (passes_of rfl) rfl)
    (sss_cons (ss_par (i := 9) (j := 10) rfl sc_law.nd rfl rfl (by decide) rfl rfl ee_str (ee_add ee_int (ef_ee (ef_call (AL .f__law_next) hr T.m__law_next T.F__law_next.kp T.b__law_next .nil (takes_of rfl rfl rfl rfl) (aa_cons (ee_var (pv 1)) (aa_cons ee_int aa_nil)) (fun _ _ _ => rfl)))))
    (sss_cons (ss_for (.nm 6) (is_of (in_ii (in_range1 T.z_range (aa_cons (ee_var (pv 10)) aa_nil)))) (pg_name (i := 6) sc_law.nd rfl (Or.inl rfl)) (sss_one (ss_set sc_law.nd rfl (Or.inl rfl) (ee_tup (aa_cons (ee_var (pv 9)) aa_nil)))) (passes_of rfl) rfl)
    (sss_cons (ss_if (tt_of (ww_or (tt_not (tt_val (ef_ee (ef_call (AL .f__law_same) hr T.m__law_same T.F__law_same.kp T.b__law_same .nil (takes_of rfl rfl rfl rfl) (aa_cons (ee_lst (aa_cons (ef_ee (ef_call (AL .f_is_sexpr) hr T.m_is_sexpr T.F_is_sexpr.kp (T.d1_is_sexpr).choose_spec.2 (T.d1_is_sexpr).choose_spec.1 (takes_of rfl rfl rfl rfl) (aa_cons (ee_var (pv 9)) aa_nil) (fun _ _ _ => RpL.cons rfl RpL.nil))) (aa_cons (ef_ee (ef_call (AL .f_read_sexpr) hr T.m_read_sexpr T.F_read_sexpr.kp T.b_read_sexpr .nil (takes_of rfl rfl rfl rfl) (aa_cons (ef_ee (ef_call (AL .f__law_text) hr T.m__law_text T.F__law_text.kp T.b__law_text .nil (takes_of rfl rfl rfl rfl) (aa_cons (ee_var (pv 9)) aa_nil) (fun _ _ _ => rfl))) aa_nil) (fun _ _ _ => rfl))) aa_nil))) (aa_cons (ee_lst (aa_cons (ee_cmp or_le os_cmp (ee_var (pv 10)) ee_int (nomark _)) (aa_cons (ee_if (tt_cmp or_le os_cmp (ee_var (pv 10)) ee_int (nomark _)) (ee_var (pv 9)) ee_non) aa_nil))) aa_nil)) (fun _ _ _ => rfl))))) (ww_or1 (tt_cmp (or_ne hr.units) os_ne (ef_ee (ef_call (AL .f__law_deep) hr T.m__law_deep T.F__law_deep.kp T.b__law_deep .nil (takes_of rfl rfl rfl rfl) (aa_cons (ee_var (pv 9)) aa_nil) (fun _ _ _ => rfl))) (ee_add (ee_var (pv 10)) ee_int) (nomark _))))) (sss_one (ss_ret ee_bl)) sss_nil)
    (sss_cons (ss_set sc_law.nd rfl (Or.inl rfl) (ee_lst (aa_cons ee_str (aa_cons ee_str (aa_cons ee_str (aa_cons (ee_lst (aa_cons ee_str aa_nil)) (aa_cons (ee_tup (aa_cons ee_str (aa_cons ee_non aa_nil))) (aa_cons ee_int (aa_cons ee_non (aa_cons (ee_tup (aa_cons ee_str (aa_cons ee_str aa_nil))) (aa_cons (ee_tup (aa_cons ee_str aa_nil)) aa_nil)))))))))))
    (sss_one (ss_retF (ef_call (AL .f__law_same) hr T.m__law_same T.F__law_same.kp T.b__law_same .nil (takes_of rfl rfl rfl rfl) (aa_cons (ee_lst (aa_cons (ee_lc rfl sc_law.nd (.nm 13) (own := [("one", 13)]) (by decide) (ii_of (ee_var (pv 7))) (blkOk_by (own := [("one", 13)]) (N := N_law) (sc := defScope s_law) (by decide +kernel)) (fun _ _ _ _ _ => (pg_name (i := 13) sc_law.nd rfl (Or.inl rfl))) (fun _ _ _ _ _ => pts_yes) (fun _ _ _ _ _ => (ef_ee (ef_call (AL .f_is_sexpr) hr T.m_is_sexpr T.F_is_sexpr.kp (T.d1_is_sexpr).choose_spec.2 (T.d1_is_sexpr).choose_spec.1 takes0 (aa_cons (ee_var (pv 13)) aa_nil) (fun _ _ _ => RpL.cons rfl RpL.nil))))) (aa_cons (ee_lc rfl sc_law.nd (.nm 13) (own := [("one", 13)]) (by decide) (ii_of (ee_tup (aa_cons ee_str (aa_cons ee_str (aa_cons ee_str (aa_cons ee_str aa_nil)))))) (blkOk_by (own := [("one", 13)]) (N := N_law) (sc := defScope s_law) (by decide +kernel)) (fun _ _ _ _ _ => (pg_name (i := 13) sc_law.nd rfl (Or.inl rfl))) (fun _ _ _ _ _ => pts_yes) (fun _ _ _ _ _ => (ef_ee (ef_call (AL .f_read_sexpr) hr T.m_read_sexpr T.F_read_sexpr.kp T.b_read_sexpr .nil takes0 (aa_cons (ee_var (pv 13)) aa_nil) (fun _ _ _ => rfl))))) (aa_cons (ee_c (pe_glob (v := .int 20) (by rfl) T.g_MOST_DEPTH_TEXT.choose_spec ⟨_, rfl⟩) (fun _ _ _ => rfl)) aa_nil)))) (aa_cons (ee_lst (aa_cons (ee_mulA (ee_lst (aa_cons ee_bl aa_nil)) ee_int) (aa_cons (ee_mulA (ee_lst (aa_cons ee_non aa_nil)) ee_int) (aa_cons ee_int aa_nil)))) aa_nil)) (fun _ _ _ => rfl))))))))))))))
theorem all_ok {P : Program} {w : World} {K : PySem.W.Frag} {mg : Str → Option Value} {base : Heap} {ad : Fn → Addr} {fd : Fn → FuncData} {ce : Str → Addr} (T : Tab P w K mg ad fd ce) : ∀ (n : Nat) (g : Fn), FnOk P w K mg base (L2.CX P w) n (ad g) (fd g) (params g) (spF K mg (params g).length (Φ n g))
  | 0, g => ok0 _ (fun _ _ => rfl) rfl
  | n + 1, g => by
    have AL := all_ok (P := P) (w := w) (base := base) T n
    cases g
    case f_blank_words => exact ok_blank_words T (Φ n) AL
    case f_sexpr_tokens => exact ok_sexpr_tokens T (Φ n) AL
    case f_read_sexpr => exact ok_read_sexpr T (Φ n) AL
    case f_sexpr_text => exact ok_sexpr_text T (Φ n) AL
    case f_is_sexpr => exact ok_is_sexpr T (Φ n) AL
    case f__law_next => exact ok__law_next T (Φ n) AL
    case f__law_same => exact ok__law_same T (Φ n) AL
    case f__law_drawn => exact ok__law_drawn T (Φ n) AL
    case f__law_text => exact ok__law_text T (Φ n) AL
    case f__law_tokens => exact ok__law_tokens T (Φ n) AL
    case f__law_read => exact ok__law_read T (Φ n) AL
    case f__law_whole => exact ok__law_whole T (Φ n) AL
    case f__law_deep => exact ok__law_deep T (Φ n) AL
    case f_law => exact ok_law T (Φ n) AL
theorem tab_mk {P : Program} {w : World} {K : PySem.W.Frag} {h : Heap} {mg : Str → Option Value} {ce : Str → Addr} {fa f1 f2 f3 f4 f5 f6 f7 f8 f9 f10 f11 f12 f13 f14 : Addr} {od1 an1 od2 an2 od3 an3 od4 an4 od5 an5 od6 an6 od7 an7 od8 an8 od9 an9 od10 an10 od11 an11 od12 an12 od13 an13 od14 an14 : Option Addr} {sl1 sl2 sl3 sl4 sl5 sl6 sl7 sl8 sl9 sl10 sl11 sl12 sl13 sl14 : Array (Option Value)} {oc1 kV1 dc1 pm1 cd1 ct1 oc2 kV2 dc2 pm2 cd2 ct2 oc3 kV3 dc3 pm3 cd3 ct3 oc4 kV4 dc4 pm4 cd4 ct4 oc5 kV5 dc5 pm5 cd5 ct5 oc6 kV6 dc6 pm6 cd6 ct6 oc7 kV7 dc7 pm7 cd7 ct7 oc8 kV8 dc8 pm8 cd8 ct8 oc9 kV9 dc9 pm9 cd9 ct9 oc10 kV10 dc10 pm10 cd10 ct10 oc11 kV11 dc11 pm11 cd11 ct11 oc12 kV12 dc12 pm12 cd12 ct12 oc13 kV13 dc13 pm13 cd13 ct13 oc14 kV14 dc14 pm14 cd14 ct14 : Value} {T5 : Addr} {ot5 : Value} {od'5 : Option Addr} {sl'5 : Array (Option Value)} {n5 : Nat} {t5_0 : _} {tg1 : _} (X : K.In h) (G : h.Ns mainGlobals mg) (hfa : mg "law" = some (.ref fa)) 
    (a1 : PySem.W.nsIn K mainGlobals "blank_words" = some (some (.ref f1)))
    (l1 : K.lookup f1 = some ⟨oc1, od1, .func (PySem.W.fnOf "blank_words" "blank_words" (defArgs s_blank_words) (defBody s_blank_words) (defScope s_blank_words) .none kV1 dc1 pm1 an1 cd1 ct1), sl1⟩)
    (c1 : PySem.W.codeIn K cd1 "blank_words" = true) (k1 : PySem.W.keepIn K (.ref f1) = true)
    (a2 : PySem.W.nsIn K mainGlobals "sexpr_tokens" = some (some (.ref f2)))
    (l2 : K.lookup f2 = some ⟨oc2, od2, .func (PySem.W.fnOf "sexpr_tokens" "sexpr_tokens" (defArgs s_sexpr_tokens) (defBody s_sexpr_tokens) (defScope s_sexpr_tokens) .none kV2 dc2 pm2 an2 cd2 ct2), sl2⟩)
    (c2 : PySem.W.codeIn K cd2 "sexpr_tokens" = true) (k2 : PySem.W.keepIn K (.ref f2) = true)
    (a3 : PySem.W.nsIn K mainGlobals "read_sexpr" = some (some (.ref f3)))
    (l3 : K.lookup f3 = some ⟨oc3, od3, .func (PySem.W.fnOf "read_sexpr" "read_sexpr" (defArgs s_read_sexpr) (defBody s_read_sexpr) (defScope s_read_sexpr) .none kV3 dc3 pm3 an3 cd3 ct3), sl3⟩)
    (c3 : PySem.W.codeIn K cd3 "read_sexpr" = true) (k3 : PySem.W.keepIn K (.ref f3) = true)
    (a4 : PySem.W.nsIn K mainGlobals "sexpr_text" = some (some (.ref f4)))
    (l4 : K.lookup f4 = some ⟨oc4, od4, .func (PySem.W.fnOf "sexpr_text" "sexpr_text" (defArgs s_sexpr_text) (defBody s_sexpr_text) (defScope s_sexpr_text) .none kV4 dc4 pm4 an4 cd4 ct4), sl4⟩)
    (c4 : PySem.W.codeIn K cd4 "sexpr_text" = true) (k4 : PySem.W.keepIn K (.ref f4) = true)
    (a5 : PySem.W.nsIn K mainGlobals "is_sexpr" = some (some (.ref f5)))
    (l5 : K.lookup f5 = some ⟨oc5, od5, .func (PySem.W.fnOf "is_sexpr" "is_sexpr" (defArgs s_is_sexpr) (defBody s_is_sexpr) (defScope s_is_sexpr) (.ref T5) kV5 dc5 pm5 an5 cd5 ct5), sl5⟩)
    (c5 : PySem.W.codeIn K cd5 "is_sexpr" = true) (k5 : PySem.W.keepIn K (.ref f5) = true)
    (t5 : K.lookup T5 = some ⟨ot5, od'5, .seq #[.int 1 t5_0] n5, sl'5⟩)
    (a6 : PySem.W.nsIn K mainGlobals "_law_next" = some (some (.ref f6)))
    (l6 : K.lookup f6 = some ⟨oc6, od6, .func (PySem.W.fnOf "_law_next" "_law_next" (defArgs s__law_next) (defBody s__law_next) (defScope s__law_next) .none kV6 dc6 pm6 an6 cd6 ct6), sl6⟩)
    (c6 : PySem.W.codeIn K cd6 "_law_next" = true) (k6 : PySem.W.keepIn K (.ref f6) = true)
    (a7 : PySem.W.nsIn K mainGlobals "_law_same" = some (some (.ref f7)))
    (l7 : K.lookup f7 = some ⟨oc7, od7, .func (PySem.W.fnOf "_law_same" "_law_same" (defArgs s__law_same) (defBody s__law_same) (defScope s__law_same) .none kV7 dc7 pm7 an7 cd7 ct7), sl7⟩)
    (c7 : PySem.W.codeIn K cd7 "_law_same" = true) (k7 : PySem.W.keepIn K (.ref f7) = true)
    (a8 : PySem.W.nsIn K mainGlobals "_law_drawn" = some (some (.ref f8)))
    (l8 : K.lookup f8 = some ⟨oc8, od8, .func (PySem.W.fnOf "_law_drawn" "_law_drawn" (defArgs s__law_drawn) (defBody s__law_drawn) (defScope s__law_drawn) .none kV8 dc8 pm8 an8 cd8 ct8), sl8⟩)
    (c8 : PySem.W.codeIn K cd8 "_law_drawn" = true) (k8 : PySem.W.keepIn K (.ref f8) = true)
    (a9 : PySem.W.nsIn K mainGlobals "_law_text" = some (some (.ref f9)))
    (l9 : K.lookup f9 = some ⟨oc9, od9, .func (PySem.W.fnOf "_law_text" "_law_text" (defArgs s__law_text) (defBody s__law_text) (defScope s__law_text) .none kV9 dc9 pm9 an9 cd9 ct9), sl9⟩)
    (c9 : PySem.W.codeIn K cd9 "_law_text" = true) (k9 : PySem.W.keepIn K (.ref f9) = true)
    (a10 : PySem.W.nsIn K mainGlobals "_law_tokens" = some (some (.ref f10)))
    (l10 : K.lookup f10 = some ⟨oc10, od10, .func (PySem.W.fnOf "_law_tokens" "_law_tokens" (defArgs s__law_tokens) (defBody s__law_tokens) (defScope s__law_tokens) .none kV10 dc10 pm10 an10 cd10 ct10), sl10⟩)
    (c10 : PySem.W.codeIn K cd10 "_law_tokens" = true) (k10 : PySem.W.keepIn K (.ref f10) = true)
    (a11 : PySem.W.nsIn K mainGlobals "_law_read" = some (some (.ref f11)))
    (l11 : K.lookup f11 = some ⟨oc11, od11, .func (PySem.W.fnOf "_law_read" "_law_read" (defArgs s__law_read) (defBody s__law_read) (defScope s__law_read) .none kV11 dc11 pm11 an11 cd11 ct11), sl11⟩)
    (c11 : PySem.W.codeIn K cd11 "_law_read" = true) (k11 : PySem.W.keepIn K (.ref f11) = true)
    (a12 : PySem.W.nsIn K mainGlobals "_law_whole" = some (some (.ref f12)))
    (l12 : K.lookup f12 = some ⟨oc12, od12, .func (PySem.W.fnOf "_law_whole" "_law_whole" (defArgs s__law_whole) (defBody s__law_whole) (defScope s__law_whole) .none kV12 dc12 pm12 an12 cd12 ct12), sl12⟩)
    (c12 : PySem.W.codeIn K cd12 "_law_whole" = true) (k12 : PySem.W.keepIn K (.ref f12) = true)
    (a13 : PySem.W.nsIn K mainGlobals "_law_deep" = some (some (.ref f13)))
    (l13 : K.lookup f13 = some ⟨oc13, od13, .func (PySem.W.fnOf "_law_deep" "_law_deep" (defArgs s__law_deep) (defBody s__law_deep) (defScope s__law_deep) .none kV13 dc13 pm13 an13 cd13 ct13), sl13⟩)
    (c13 : PySem.W.codeIn K cd13 "_law_deep" = true) (k13 : PySem.W.keepIn K (.ref f13) = true)
    (a14 : PySem.W.nsIn K mainGlobals "law" = some (some (.ref f14)))
    (l14 : K.lookup f14 = some ⟨oc14, od14, .func (PySem.W.fnOf "law" "law" (defArgs s_law) (defBody s_law) (defScope s_law) .none kV14 dc14 pm14 an14 cd14 ct14), sl14⟩)
    (c14 : PySem.W.codeIn K cd14 "law" = true) (k14 : PySem.W.keepIn K (.ref f14) = true)
    (z1 : PySem.W.nsIn K mainGlobals "abs" = some none)
    (z2 : PySem.W.nsIn K mainGlobals "all" = some none)
    (z3 : PySem.W.nsIn K mainGlobals "any" = some none)
    (z4 : PySem.W.nsIn K mainGlobals "bool" = some none)
    (z5 : PySem.W.nsIn K mainGlobals "int" = some none)
    (z6 : PySem.W.nsIn K mainGlobals "isinstance" = some none)
    (z7 : PySem.W.nsIn K mainGlobals "len" = some none)
    (z8 : PySem.W.nsIn K mainGlobals "list" = some none)
    (z9 : PySem.W.nsIn K mainGlobals "max" = some none)
    (z10 : PySem.W.nsIn K mainGlobals "range" = some none)
    (z11 : PySem.W.nsIn K mainGlobals "str" = some none)
    (z12 : PySem.W.nsIn K mainGlobals "tuple" = some none)
    (g1 : PySem.W.nsIn K mainGlobals "MOST_DEPTH_TEXT" = some (some (.int 20 tg1))) :
    ∃ (ad : Fn → Addr) (fd : Fn → FuncData), Tab P w K mg ad fd ce ∧ ad .f_law = fa ∧ ∀ (s : Shared) (u : Value), BindsTo s (fd .f_law) ⟨[u], []⟩ [("script", u)] := by
  have e := hfa.symm.trans (PySem.W.mg_of X G a14)
  cases e
  have F1 := funD_mk (st := s_blank_words) l1 c1 k1
  have F2 := funD_mk (st := s_sexpr_tokens) l2 c2 k2
  have F3 := funD_mk (st := s_read_sexpr) l3 c3 k3
  have F4 := funD_mk (st := s_sexpr_text) l4 c4 k4
  have F5 := funD_mkD (st := s_is_sexpr) (dvs := [V.int 1]) (its := [.int 1 t5_0]) l5 c5 k5 (by simp) t5 rfl (.cons ⟨_, rfl⟩ (.nil))
  have F6 := funD_mk (st := s__law_next) l6 c6 k6
  have F7 := funD_mk (st := s__law_same) l7 c7 k7
  have F8 := funD_mk (st := s__law_drawn) l8 c8 k8
  have F9 := funD_mk (st := s__law_text) l9 c9 k9
  have F10 := funD_mk (st := s__law_tokens) l10 c10 k10
  have F11 := funD_mk (st := s__law_read) l11 c11 k11
  have F12 := funD_mk (st := s__law_whole) l12 c12 k12
  have F13 := funD_mk (st := s__law_deep) l13 c13 k13
  have F14 := funD_mk (st := s_law) l14 c14 k14
  refine ⟨fun | .f_blank_words => f1 | .f_sexpr_tokens => f2 | .f_read_sexpr => f3 | .f_sexpr_text => f4 | .f_is_sexpr => f5 | .f__law_next => f6 | .f__law_same => f7 | .f__law_drawn => f8 | .f__law_text => f9 | .f__law_tokens => f10 | .f__law_read => f11 | .f__law_whole => f12 | .f__law_deep => f13 | .f_law => fa, fun | .f_blank_words => PySem.W.fnOf "blank_words" "blank_words" (defArgs s_blank_words) (defBody s_blank_words) (defScope s_blank_words) .none kV1 dc1 pm1 an1 cd1 ct1 | .f_sexpr_tokens => PySem.W.fnOf "sexpr_tokens" "sexpr_tokens" (defArgs s_sexpr_tokens) (defBody s_sexpr_tokens) (defScope s_sexpr_tokens) .none kV2 dc2 pm2 an2 cd2 ct2 | .f_read_sexpr => PySem.W.fnOf "read_sexpr" "read_sexpr" (defArgs s_read_sexpr) (defBody s_read_sexpr) (defScope s_read_sexpr) .none kV3 dc3 pm3 an3 cd3 ct3 | .f_sexpr_text => PySem.W.fnOf "sexpr_text" "sexpr_text" (defArgs s_sexpr_text) (defBody s_sexpr_text) (defScope s_sexpr_text) .none kV4 dc4 pm4 an4 cd4 ct4 | .f_is_sexpr => PySem.W.fnOf "is_sexpr" "is_sexpr" (defArgs s_is_sexpr) (defBody s_is_sexpr) (defScope s_is_sexpr) (.ref T5) kV5 dc5 pm5 an5 cd5 ct5 | .f__law_next => PySem.W.fnOf "_law_next" "_law_next" (defArgs s__law_next) (defBody s__law_next) (defScope s__law_next) .none kV6 dc6 pm6 an6 cd6 ct6 | .f__law_same => PySem.W.fnOf "_law_same" "_law_same" (defArgs s__law_same) (defBody s__law_same) (defScope s__law_same) .none kV7 dc7 pm7 an7 cd7 ct7 | .f__law_drawn => PySem.W.fnOf "_law_drawn" "_law_drawn" (defArgs s__law_drawn) (defBody s__law_drawn) (defScope s__law_drawn) .none kV8 dc8 pm8 an8 cd8 ct8 | .f__law_text => PySem.W.fnOf "_law_text" "_law_text" (defArgs s__law_text) (defBody s__law_text) (defScope s__law_text) .none kV9 dc9 pm9 an9 cd9 ct9 | .f__law_tokens => PySem.W.fnOf "_law_tokens" "_law_tokens" (defArgs s__law_tokens) (defBody s__law_tokens) (defScope s__law_tokens) .none kV10 dc10 pm10 an10 cd10 ct10 | .f__law_read => PySem.W.fnOf "_law_read" "_law_read" (defArgs s__law_read) (defBody s__law_read) (defScope s__law_read) .none kV11 dc11 pm11 an11 cd11 ct11 | .f__law_whole => PySem.W.fnOf "_law_whole" "_law_whole" (defArgs s__law_whole) (defBody s__law_whole) (defScope s__law_whole) .none kV12 dc12 pm12 an12 cd12 ct12 | .f__law_deep => PySem.W.fnOf "_law_deep" "_law_deep" (defArgs s__law_deep) (defBody s__law_deep) (defScope s__law_deep) .none kV13 dc13 pm13 an13 cd13 ct13 | .f_law => PySem.W.fnOf "law" "law" (defArgs s_law) (defBody s_law) (defScope s_law) .none kV14 dc14 pm14 an14 cd14 ct14, {
      F_blank_words := (F1),
      m_blank_words := (PySem.W.mg_of X G a1),
      b_blank_words := (F1.bindsN fun _ _ _ _ _ _ us hl => match us, hl with | [_], _ => rfl),
      F_sexpr_tokens := (F2),
      m_sexpr_tokens := (PySem.W.mg_of X G a2),
      b_sexpr_tokens := (F2.bindsN fun _ _ _ _ _ _ us hl => match us, hl with | [_], _ => rfl),
      F_read_sexpr := (F3),
      m_read_sexpr := (PySem.W.mg_of X G a3),
      b_read_sexpr := (F3.bindsN fun _ _ _ _ _ _ us hl => match us, hl with | [_], _ => rfl),
      F_sexpr_text := (F4),
      m_sexpr_text := (PySem.W.mg_of X G a4),
      b_sexpr_text := (F4.bindsN fun _ _ _ _ _ _ us hl => match us, hl with | [_], _ => rfl),
      F_is_sexpr := (F5),
      m_is_sexpr := (PySem.W.mg_of X G a5),
      b_is_sexpr := (by
        obtain ⟨ds, h1, h2⟩ := F5.binds1 (ps := params .f_is_sexpr) 2 1 (by simp) rfl (fun T kV doc pm an cdv ct us its h1 h2 => by match us, its, h1, h2 with | [_, _], [_], _, _ => exact ⟨_, rfl, rfl⟩)
        cases h1
        exact h2),
      d1_is_sexpr := (F5.binds1 1 0 (by simp) rfl (fun T kV doc pm an cdv ct us its h1 h2 => by match us, its, h1, h2 with | [_], [_], _, _ => exact ⟨_, rfl, rfl⟩)),
      F__law_next := (F6),
      m__law_next := (PySem.W.mg_of X G a6),
      b__law_next := (F6.bindsN fun _ _ _ _ _ _ us hl => match us, hl with | [_, _], _ => rfl),
      F__law_same := (F7),
      m__law_same := (PySem.W.mg_of X G a7),
      b__law_same := (F7.bindsN fun _ _ _ _ _ _ us hl => match us, hl with | [_, _], _ => rfl),
      F__law_drawn := (F8),
      m__law_drawn := (PySem.W.mg_of X G a8),
      b__law_drawn := (F8.bindsN fun _ _ _ _ _ _ us hl => match us, hl with | [_, _], _ => rfl),
      F__law_text := (F9),
      m__law_text := (PySem.W.mg_of X G a9),
      b__law_text := (F9.bindsN fun _ _ _ _ _ _ us hl => match us, hl with | [_], _ => rfl),
      F__law_tokens := (F10),
      m__law_tokens := (PySem.W.mg_of X G a10),
      b__law_tokens := (F10.bindsN fun _ _ _ _ _ _ us hl => match us, hl with | [_], _ => rfl),
      F__law_read := (F11),
      m__law_read := (PySem.W.mg_of X G a11),
      b__law_read := (F11.bindsN fun _ _ _ _ _ _ us hl => match us, hl with | [_, _, _], _ => rfl),
      F__law_whole := (F12),
      m__law_whole := (PySem.W.mg_of X G a12),
      b__law_whole := (F12.bindsN fun _ _ _ _ _ _ us hl => match us, hl with | [_], _ => rfl),
      F__law_deep := (F13),
      m__law_deep := (PySem.W.mg_of X G a13),
      b__law_deep := (F13.bindsN fun _ _ _ _ _ _ us hl => match us, hl with | [_], _ => rfl),
      F_law := (F14),
      m_law := (PySem.W.mg_of X G a14),
      b_law := (F14.bindsN fun _ _ _ _ _ _ us hl => match us, hl with | [_], _ => rfl),
      z_abs := (PySem.W.mg_none_of X G z1),
      z_all := (PySem.W.mg_none_of X G z2),
      z_any := (PySem.W.mg_none_of X G z3),
      z_bool := (PySem.W.mg_none_of X G z4),
      z_int := (PySem.W.mg_none_of X G z5),
      z_isinstance := (PySem.W.mg_none_of X G z6),
      z_len := (PySem.W.mg_none_of X G z7),
      z_list := (PySem.W.mg_none_of X G z8),
      z_max := (PySem.W.mg_none_of X G z9),
      z_range := (PySem.W.mg_none_of X G z10),
      z_str := (PySem.W.mg_none_of X G z11),
      z_tuple := (PySem.W.mg_none_of X G z12),
      g_MOST_DEPTH_TEXT := (⟨_, PySem.W.mg_of X G g1⟩) }, rfl, fun s u => .of_eq rfl⟩
theorem law_ok {P : Program} {w : World} {K : PySem.W.Frag} {mg : Str → Option Value} {base : Heap} {ad : Fn → Addr} {fd : Fn → FuncData} {ce : Str → Addr} {k : Nat} (T : Tab P w K mg ad fd ce) (hF : ∀ ns : List Int, ns.length ≤ 63 → ∃ μ, Φ k .f_law [.fro (ns.map .int)] [] = .ok (.bl true) μ) :
    FnOk P w K mg base (L2.CX P w) k (ad .f_law) (fd .f_law) ["script"] (spL K) := (all_ok T k .f_law).imp fun _ _ _ _ h => spL_spF hF h

end Law
end FP
/-! K01B: texts as lists of signs: the program's tokens, the law's own. -/
namespace FP
namespace Law
open PySem PySem.Spec L2 PySem.W
open PyProof.Rows hiding St
open SX (S)
abbrev Wd := List Nat
/-- a word that is done -/
def fl (cur : Wd) : List Wd := if cur = [] then [] else [cur]
/-- the tokens of signs, cur the word so far -/
def tk : Wd → List Nat → List Wd
  | cur, [] => fl cur
  | cur, c :: r => if c = 40 ∨ c = 41 then fl cur ++ [c] :: tk [] r else if c = 32 ∨ c = 10 then fl cur ++ tk [] r else tk (cur ++ [c]) r
/-- cut at blanks -/
def wd : Wd → List Nat → List Wd
  | cur, [] => fl cur
  | cur, c :: r => if c = 32 then fl cur ++ wd [] r else wd (cur ++ [c]) r
/-- the three replacements -/
def pad (c : Nat) : List Nat := if c = 40 then [32, 40, 32] else if c = 41 then [32, 41, 32] else if c = 10 then [32] else [c]
theorem fl_nil : fl [] = [] := rfl
theorem fl_one (c : Nat) (w : Wd) : fl (w ++ [c]) = [w ++ [c]] := by simp [fl]
theorem wd_pad : ∀ (l : List Nat) (cur : Wd), (∀ c ∈ l, c ≠ 9) → wd cur (l.flatMap pad) = tk cur l
  | [], cur, _ => rfl
  | c :: r, cur, h => by
    have ih := fun w => wd_pad r w fun d hd => h d (List.mem_cons_of_mem _ hd)
    rw [List.flatMap_cons]
    have ep : pad c = if c = 40 then [32, 40, 32] else if c = 41 then [32, 41, 32] else if c = 10 then [32] else [c] := rfl
    rw [ep]
    unfold tk
    by_cases h40 : c = 40
    · subst h40; simp [wd, fl, ih]
    · by_cases h41 : c = 41
      · subst h41; simp [wd, fl, ih]
      · by_cases h10 : c = 10
        · subst h10; simp [wd, ih]
        · by_cases h32 : c = 32
          · subst h32; simp [wd, ih]
          · simp [h40, h41, h10, h32, wd, ih]
/-! the program's own functions on signs -/
theorem repl_map (y : Nat) (z : List Nat) : ∀ l : List Nat, StrLaws.replL [y] z l = l.flatMap fun c => if c = y then z else [c]
  | [] => StrLaws.replL_nil
  | c :: r => by
    have ih := repl_map y z r
    by_cases h : c = y
    · subst h
      rw [StrLaws.replL_hit (by simp) (by simp), List.flatMap_cons]
      simp [ih]
    · rw [StrLaws.replL_miss (by simp [h]), List.flatMap_cons, ih]
      simp [h]
theorem repl_S (y : Nat) (z l : List Nat) : Txt.replace (S l) (S [y]) (S z) = S (l.flatMap fun c => if c = y then z else [c]) := by
  have h := StrLaws.replace_list (x := S l) (y := S [y]) (z := S z) (by simp [Str.length])
  have e : Txt.replace (S l) (S [y]) (S z) = S ((Txt.replace (S l) (S [y]) (S z)).cps.toList) := (SX.S_tl _).symm
  rw [e, h]
  exact congrArg S (repl_map y z l)
theorem spl_wd : ∀ (l : List Nat) (acc : Wd), (TL.spl [32] 0 acc l).filter (fun w => !(w == [])) = wd acc l
  | [], acc => by
    rw [TL.spl_nil]
    unfold wd fl
    by_cases h : acc = []
    · simp [h]
    · have : (acc == []) = false := by simpa using h
      simp [h, this]
  | c :: r, acc => by
    by_cases h : c = 32
    · subst h
      rw [TL.spl_hit (by simp [TL.pre])]
      have ih := spl_wd r []
      unfold wd fl
      simp only [List.length_cons, List.length_nil, Nat.add_sub_cancel, List.filter_cons, Nat.zero_add]
      rw [ih]
      by_cases ha : acc = []
      · simp [ha]
      · have : (acc == []) = false := by simpa using ha
        simp [ha, this]
    · rw [TL.spl_miss (by simp [TL.pre, h])]
      have ih := spl_wd r (acc ++ [c])
      rw [ih]
      simp [wd, h]
def noTab (l : List Nat) : Prop := ∀ c ∈ l, c ≠ 9
theorem str_S : ("" : Str) = S [] ∧ (" " : Str) = S [32] ∧ ("\t" : Str) = S [9] ∧ ("\n" : Str) = S [10] ∧ ("(" : Str) = S [40] ∧ (")" : Str) = S [41] ∧ (" ( " : Str) = S [32, 40, 32] ∧ (" ) " : Str) = S [32, 41, 32] := by decide +kernel
theorem flat_len {f : Nat → List Nat} {k : Nat} (h : ∀ c, (f c).length ≤ k) : ∀ l : List Nat, (l.flatMap f).length ≤ l.length * k
  | [] => by simp
  | c :: r => by
    have ih := flat_len h r
    have := h c
    rw [List.flatMap_cons, List.length_append, List.length_cons, Nat.add_mul]
    omega
theorem ph_bw (n : Nat) : Φ (n + 1) .f_blank_words = runF 2 (B_blank_words (Φ n)) := rfl
theorem ph_tok (n : Nat) : Φ (n + 1) .f_sexpr_tokens = runF 1 (B_sexpr_tokens (Φ n)) := rfl
def strsW (ws : List Wd) : List D := ws.map fun w => .str (S w)
theorem noLs_W : ∀ ws : List Wd, noLs (strsW ws) = true
  | [] => rfl
  | _ :: ws => by simp [strsW, noLs, noL]; exact noLs_W ws
theorem blank_ok (n : Nat) (l : List Nat) (μ : Mem) (hl : l.length ≤ 1000000) (ht : noTab l) : Φ (n + 1) .f_blank_words [.str (S l)] μ = .ok (.lst (strsW (wd [] l))) μ := by
  rw [ph_bw, run_is]
  obtain ⟨s0, s1, s2, _⟩ := str_S
  have r1 : Txt.replace (S l) "\t" " " = S l := by
    rw [s1, s2, repl_S]
    congr 1
    have : ∀ l : List Nat, noTab l → (l.flatMap fun c => if c = 9 then [32] else [c]) = l := by
      intro l
      induction l with
      | nil => intro _; rfl
      | cons c r ih =>
        intro h
        rw [List.flatMap_cons, ih fun d hd => h d (List.mem_cons_of_mem _ hd), if_neg (h c List.mem_cons_self)]
        rfl
    exact this l ht
  have r2 : Txt.split (S l) " " = (TL.spl [32] 0 [] l).map S := by
    rw [s1]
    exact SX.split_S (by simp) (by decide)
  have hb : (S l).length = l.length := SX.S_len l
  have z1 : (" " : Str).length = 1 := by rw [s1]; rfl
  have hk : (S l).length + ((S l).length + 1) * (" " : Str).length ≤ 16777216 := by rw [z1, hb]; omega
  have hsp : (TL.spl [32] 0 [] l).length ≤ 10000000 := by
    have h := split_le (S l) " "
    rw [r2, List.length_map, hb] at h
    omega
  have lc := lc_all (g := .nm 1) (tst := mTst (mOp fNe (mVar 1) (mC (D.str "")))) (elt := mVar 1) (η := [some (.str (S l)), none]) (μ := μ) (fun d => match d with | .str s => !(s == "") | _ => false) id ((TL.spl [32] 0 [] l).map fun w => .str (S w)) []
    (by simpa using hsp) (fun d hd => by
      obtain ⟨w, _, rfl⟩ := List.mem_map.mp hd
      exact ⟨_, rfl, by simp, fun _ => by simp⟩)
  have fe : ((TL.spl [32] 0 [] l).map fun w => D.str (S w)).filter (fun d => match d with | .str s => !(s == "") | _ => false) = strsW (wd [] l) := by
    rw [← spl_wd, List.filter_map]
    unfold strsW
    congr 1
    apply List.filter_congr
    intro w _
    show (!(S w == "")) = _
    rw [s0, SX.S_beq]
  rw [fe, List.map_id, List.nil_append] at lc
  have ms : ((TL.spl [32] 0 [] l).map S).map D.str = (TL.spl [32] 0 [] l).map fun w => D.str (S w) := by rw [List.map_map]; rfl
  have hl2 : (S l).length + 2 ≤ 10000000 := by rw [hb]; omega
  have hz : ((" " : Str).length == 0) = false := by rw [z1]; rfl
  simp [B_blank_words, startD, r1, r2, ms, hk, hl2, hz, wipeD, lc, retOk, noLs_W]
theorem tokens_ok (n : Nat) (l : List Nat) (μ : Mem) (hl : l.length ≤ 100000) (ht : noTab l) : Φ (n + 2) .f_sexpr_tokens [.str (S l)] μ = .ok (.lst (strsW (tk [] l))) μ := by
  rw [ph_tok, run_is]
  obtain ⟨s0, s1, s2, s3, s4, s5, s6, s7⟩ := str_S
  have f1 := flat_len (f := fun c => if c = 40 then [32, 40, 32] else [c]) (k := 3) (fun c => by split <;> simp) l
  generalize hl1 : (l.flatMap fun c => if c = 40 then [32, 40, 32] else [c]) = l1 at f1
  have f2 := flat_len (f := fun c => if c = 41 then [32, 41, 32] else [c]) (k := 3) (fun c => by split <;> simp) l1
  generalize hl2 : (l1.flatMap fun c => if c = 41 then [32, 41, 32] else [c]) = l2 at f2
  have f3 := flat_len (f := fun c => if c = 10 then [32] else [c]) (k := 1) (fun c => by split <;> simp) l2
  generalize hl3 : (l2.flatMap fun c => if c = 10 then [32] else [c]) = l3 at f3
  have e1 : Txt.replace (S l) "(" " ( " = S l1 := by rw [s4, s6, repl_S, hl1]
  have e2 : Txt.replace (S l1) ")" " ) " = S l2 := by rw [s5, s7, repl_S, hl2]
  have e3 : Txt.replace (S l2) "\n" " " = S l3 := by rw [s3, s1, repl_S, hl3]
  have z1 : (" ( " : Str).length = 3 := by rw [s6]; rfl
  have z2 : (" ) " : Str).length = 3 := by rw [s7]; rfl
  have z3 : (" " : Str).length = 1 := by rw [s1]; rfl
  have k1 : (S l).length + ((S l).length + 1) * (" ( " : Str).length ≤ 16777216 := by rw [z1, SX.S_len]; omega
  have k2 : (S l1).length + ((S l1).length + 1) * (" ) " : Str).length ≤ 16777216 := by rw [z2, SX.S_len]; omega
  have k3 : (S l2).length + ((S l2).length + 1) * (" " : Str).length ≤ 16777216 := by rw [z3, SX.S_len]; omega
  have whole : l3 = l.flatMap pad := by
    rw [← hl3, ← hl2, ← hl1, List.flatMap_assoc, List.flatMap_assoc]
    congr 1
    funext c
    unfold pad
    by_cases h40 : c = 40
    · subst h40; rfl
    · by_cases h41 : c = 41
      · subst h41; rfl
      · by_cases h10 : c = 10
        · subst h10; rfl
        · simp [h40, h41, h10]
  have nt : noTab l3 := by
    rw [whole]
    intro c hc
    obtain ⟨d, hd, hcd⟩ := List.mem_flatMap.mp hc
    have := ht d hd
    unfold pad at hcd
    split at hcd
    · simp at hcd; omega
    · split at hcd
      · simp at hcd; omega
      · split at hcd
        · simp at hcd; omega
        · simp at hcd; omega
  have bw := blank_ok n l3 μ (by omega) nt
  rw [whole, wd_pad l [] ht, ← whole] at bw
  simp [B_sexpr_tokens, startD, e1, e2, e3, k1, k2, k3, bw, retOk, noLs_W]
end Law
end FP
/-! K01C: read_sexpr is a machine of stacks. -/
namespace FP
namespace Law
open PySem PySem.Spec L2 PySem.W
open PyProof.Rows hiding St
open SX (S)
/-- an expression in brackets -/
inductive Ex where
  | w (l : Wd) | t (l : List Ex)
mutual
def exD : Ex → D
  | .w l => .str (S l)
  | .t l => .tup (exDs l)
def exDs : List Ex → List D
  | [] => []
  | e :: l => exD e :: exDs l
end
theorem exDs_map : ∀ l : List Ex, exDs l = l.map exD
  | [] => rfl
  | e :: l => by simp [exDs, exDs_map l]
mutual
theorem noL_ex : ∀ e : Ex, noL (exD e) = true
  | .w l => rfl
  | .t l => by simp [exD, noL, noLs_ex l]
theorem noLs_ex : ∀ l : List Ex, noLs (exDs l) = true
  | [] => rfl
  | e :: l => by simp [exDs, noLs, noL_ex e, noLs_ex l]
end
/-- one token: the stack from the top -/
def step (k : Wd) : List (List Ex) → Option (List (List Ex))
  | [] => none
  | a :: st => if k = [40] then some ([] :: a :: st) else if k = [41] then match st with
    | b :: r => some ((b ++ [.t a]) :: r)
    | [] => none
    else some ((a ++ [.w k]) :: st)
def fin : List (List Ex) → Option Ex
  | [[x]] => some x
  | _ => none
/-- the machine, with the bound on the stack -/
def MD : List (List Ex) → List Wd → Option Ex
  | st, [] => fin st
  | st, k :: r => match step k st with
    | some st' => if 20 < st'.length then none else MD st' r
    | none => none
def oD : Option Ex → D
  | none => .non
  | some e => exD e
/-- the stack in memory: at c the list of the pointers, the top last -/
structure Stk (B μ : Mem) (c : Nat) (ps : List Nat) (st : List (List Ex)) : Prop where
  pre : Pre B μ
  len : ps.length = st.length
  stk : μ[c]? = some (.lst (ps.reverse.map .ptr))
  its : ∀ (i p : Nat) (a : List Ex), ps[i]? = some p → st[i]? = some a → μ[p]? = some (.lst (exDs a))
  nd : ps.Nodup
  nc : c ∉ ps
  hc : B.length ≤ c
  hp : ∀ p ∈ ps, B.length ≤ p
theorem lt_of_get {α : Type} {l : List α} {i : Nat} {x : α} (h : l[i]? = some x) : i < l.length := (List.getElem?_eq_some_iff.mp h).1
/-- a new list on top -/
theorem Stk.push {B μ : Mem} {c : Nat} {ps : List Nat} {st : List (List Ex)} (h : Stk B μ c ps st) : Stk B ((μ ++ [Cell.lst []]).set c (Cell.lst (ps.reverse.map D.ptr ++ [D.ptr μ.length]))) c (μ.length :: ps) ([] :: st) := by
  have hc := lt_of_get h.stk
  have hp : ∀ p ∈ ps, p < μ.length := fun p z => by
    obtain ⟨i, hi, e⟩ := List.getElem_of_mem z
    have hi' : i < st.length := by rw [← h.len]; exact hi
    exact lt_of_get (h.its i p st[i] (by simp [hi, e]) (by simp [hi']))
  refine ⟨(h.pre.app _).set h.hc _, by simp [h.len], ?_, fun i p a e1 e2 => ?_, ?_, ?_, h.hc, fun p z => ?_⟩
  · rw [List.getElem?_set_self (by simp; omega)]
    simp
  · cases i with
    | zero =>
      simp at e1 e2
      subst e1 e2
      rw [List.getElem?_set_ne (by omega)]
      simp [exDs]
    | succ i =>
      simp at e1 e2
      have m := List.mem_of_getElem? e1
      have ne : c ≠ p := fun z => h.nc (z ▸ m)
      rw [List.getElem?_set_ne ne, List.getElem?_append_left (hp p m)]
      exact h.its i p a e1 e2
  · refine List.nodup_cons.mpr ⟨fun z => ?_, h.nd⟩
    exact Nat.lt_irrefl _ (hp _ z)
  · simp only [List.mem_cons, not_or]
    exact ⟨by omega, h.nc⟩
  · rcases List.mem_cons.mp z with rfl | z
    · exact h.pre.len
    · exact h.hp p z
/-- the top gets one more -/
theorem Stk.put {B μ : Mem} {c p : Nat} {ps : List Nat} {a : List Ex} {st : List (List Ex)} {e : Ex} (h : Stk B μ c (p :: ps) (a :: st)) : Stk B (μ.set p (.lst (exDs a ++ [exD e]))) c (p :: ps) ((a ++ [e]) :: st) := by
  have h0 := h.its 0 p a rfl rfl
  have hp := lt_of_get h0
  have nc := h.nc
  have nd := List.nodup_cons.mp h.nd
  simp only [List.mem_cons, not_or] at nc
  refine ⟨h.pre.set (h.hp p List.mem_cons_self) _, by simpa using h.len, ?_, fun i q b e1 e2 => ?_, h.nd, h.nc, h.hc, h.hp⟩
  · rw [List.getElem?_set_ne (Ne.symm nc.1)]; exact h.stk
  · cases i with
    | zero =>
      simp at e1 e2
      subst e1 e2
      rw [List.getElem?_set_self hp]
      simp [exDs_map]
    | succ i =>
      have e1' := e1
      have e2' := e2
      simp at e1 e2
      have ne : p ≠ q := fun z => nd.1 (z ▸ List.mem_of_getElem? e1)
      rw [List.getElem?_set_ne ne]
      exact h.its (i + 1) q b (by simpa using e1') (by simpa using e2)
/-- the top goes -/
theorem Stk.pop {B μ : Mem} {c p : Nat} {ps : List Nat} {a : List Ex} {st : List (List Ex)} (h : Stk B μ c (p :: ps) (a :: st)) : Stk B (μ.set c (.lst (ps.reverse.map .ptr))) c ps st := by
  have hc := lt_of_get h.stk
  have nc := h.nc
  have nd := List.nodup_cons.mp h.nd
  simp only [List.mem_cons, not_or] at nc
  refine ⟨h.pre.set h.hc _, by simpa using h.len, ?_, fun i q b e1 e2 => ?_, nd.2, nc.2, h.hc, fun q z => h.hp q (List.mem_cons_of_mem _ z)⟩
  · rw [List.getElem?_set_self hc]
  · have ne : c ≠ q := fun z => nc.2 (z ▸ List.mem_of_getElem? e1)
    rw [List.getElem?_set_ne ne]
    exact h.its (i + 1) q b (by simpa using e1) (by simpa using e2)
/-- the turn of read_sexpr -/
def turnB : MS := (sSeq (sIf (mTst (mOp fEq (mVar 2) (mC (D.str "(")))) (sDrop (mMt cApp (mVar 1) (aCons (mNewC (mLst aNil)) aNil))) (sIf (mTst (mOp fNe (mVar 2) (mC (D.str ")")))) (sDrop (mMt cApp (mOp fIxA (mVar 1) (mNeg (mC (D.int 1)))) (aCons (mVar 2) aNil))) (sIf (mTst (mOp fEq (mCall fLen (aCons (mVar 1) aNil)) (mC (D.int 1)))) (sRet (mC (D.non))) (sSeq (sSet [] 3 (mCall fTuple' (aCons (mMt cPop (mVar 1) aNil) aNil)))
    (sDrop (mMt cApp (mOp fIxA (mVar 1) (mNeg (mC (D.int 1)))) (aCons (mVar 3) aNil)))))))
    (sIf (mTst (mOp fGt (mCall fLen (aCons (mVar 1) aNil)) (mC (D.int 20)))) (sRet (mC (D.non))) sNext))
theorem turn_ok {B μ : Mem} {c : Nat} {ps : List Nat} {a : List Ex} {st : List (List Ex)} {T : D} {o : Option D} {k : Wd} (h : Stk B μ c ps (a :: st)) (ha : ∀ b ∈ a :: st, b.length < 9000000) (hs : st.length ≤ 100) :
    (∃ μ', turnB [some T, some (.ptr c), some (.str (S k)), o] μ = .rt .non μ' ∧ Pre B μ' ∧ ((step k (a :: st)) = none ∨ ∃ st', step k (a :: st) = some st' ∧ 20 < st'.length)) ∨
    (∃ μ' ps' st' o', turnB [some T, some (.ptr c), some (.str (S k)), o] μ = .nx [some T, some (.ptr c), some (.str (S k)), o'] μ' ∧ step k (a :: st) = some st' ∧ st'.length ≤ 20 ∧ Stk B μ' c ps' st') := by
  obtain ⟨_, _, _, _, s4, s5, _, _⟩ := str_S
  have q40 : (S k == "(") = decide (k = [40]) := by rw [s4, SX.S_beq_eq]
  have q41 : (S k == ")") = decide (k = [41]) := by rw [s5, SX.S_beq_eq]
  cases ps with
  | nil => have := h.len; simp at this
  | cons p ps =>
    have hlen : ps.length = st.length := by simpa using h.len
    have hstk := h.stk
    have lst := lseq_ptr hstk
    have last : ∀ {μ : Mem} {p : Nat} {ps : List Nat} {b : List Ex} {r : List (List Ex)}, Stk B μ c (p :: ps) (b :: r) → fIxA (.ptr c) (.int (-1)) μ = .ok (.ptr p) μ := fun h => ix_ptr h.stk (by rw [List.reverse_cons, List.map_append]; exact at_last _ _)
    have tail : ∀ {μ' : Mem} {ps' : List Nat} {st' : List (List Ex)} {η : Env'}, η[1]? = some (some (.ptr c)) → Stk B μ' c ps' st' → (sIf (mTst (mOp fGt (mCall fLen (aCons (mVar 1) aNil)) (mC (D.int 20)))) (sRet (mC (D.non))) sNext) η μ' = if 20 < st'.length then .rt .non μ' else .nx η μ' := fun {μ' ps' st' η} he h' => by
      have l := len_ptr h'.stk
      rw [List.length_map, List.length_reverse, h'.len] at l
      by_cases hh : 20 < st'.length
      · have hh' : (20 : Int) < (st'.length : Nat) := by omega
        simp [he, l, hh, hh', noL]
      · have hh' : ¬ (20 : Int) < (st'.length : Nat) := by omega
        simp [he, l, hh, hh']
    by_cases h40 : k = [40]
    · have b40 : (S k == "(") = true := by rw [q40, h40]; rfl
      have hp := h.push
      have ap : cApp (.ptr c) [.ptr μ.length] (μ ++ [Cell.lst []]) = .ok .non ((μ ++ [Cell.lst []]).set c (Cell.lst ((p :: ps).reverse.map D.ptr ++ [D.ptr μ.length]))) := app_ptr (by rw [List.getElem?_append_left (lt_of_get hstk)]; exact hstk) rfl (by simp; omega)
      have e0 : step k (a :: st) = some ([] :: a :: st) := by simp [step, h40]
      have run : turnB [some T, some (.ptr c), some (.str (S k)), o] μ = if 20 < ([] :: a :: st).length then .rt .non ((μ ++ [Cell.lst []]).set c (Cell.lst ((p :: ps).reverse.map D.ptr ++ [D.ptr μ.length]))) else .nx [some T, some (.ptr c), some (.str (S k)), o] ((μ ++ [Cell.lst []]).set c (Cell.lst ((p :: ps).reverse.map D.ptr ++ [D.ptr μ.length]))) := by
        have z := tail (η := [some T, some (.ptr c), some (.str (S k)), o]) rfl hp
        unfold turnB
        rw [x_seq]
        have z1 : (sIf (mTst (mOp fEq (mVar 2) (mC (D.str "(")))) (sDrop (mMt cApp (mVar 1) (aCons (mNewC (mLst aNil)) aNil))) (sIf (mTst (mOp fNe (mVar 2) (mC (D.str ")")))) (sDrop (mMt cApp (mOp fIxA (mVar 1) (mNeg (mC (D.int 1)))) (aCons (mVar 2) aNil))) (sIf (mTst (mOp fEq (mCall fLen (aCons (mVar 1) aNil)) (mC (D.int 1)))) (sRet (mC (D.non))) (sSeq (sSet [] 3 (mCall fTuple' (aCons (mMt cPop (mVar 1) aNil) aNil)))
    (sDrop (mMt cApp (mOp fIxA (mVar 1) (mNeg (mC (D.int 1)))) (aCons (mVar 3) aNil))))))) [some T, some (.ptr c), some (.str (S k)), o] μ = .nx [some T, some (.ptr c), some (.str (S k)), o] ((μ ++ [Cell.lst []]).set c (Cell.lst ((p :: ps).reverse.map D.ptr ++ [D.ptr μ.length]))) := by
          simp [b40, xk_mt1 _ _ _ _ _ lst, noLs, ap, -List.reverse_cons, -List.map_append, -List.map_reverse]
        rw [z1, y_nx, z]
      by_cases hh : 20 < ([] :: a :: st).length
      · rw [if_pos hh] at run
        exact .inl ⟨_, run, hp.pre, .inr ⟨_, e0, hh⟩⟩
      · rw [if_neg hh] at run
        exact .inr ⟨_, _, _, _, run, e0, by omega, hp⟩
    · have b40 : (S k == "(") = false := by rw [q40, decide_eq_false h40]
      by_cases h41 : k = [41]
      · have b41 : (S k == ")") = true := by rw [q41, h41]; rfl
        cases st with
        | nil =>
          have l := len_ptr hstk
          rw [List.length_map, List.length_reverse, h.len] at l
          refine .inl ⟨μ, ?_, h.pre, .inl (by simp [step, h41])⟩
          unfold turnB
          simp [b40, b41, l, noL]
        | cons b r =>
          cases ps with
          | nil => simp at hlen
          | cons p2 ps =>
            obtain ⟨n1, l, one⟩ : ∃ n : Int, fLen [.ptr c] μ = .ok (.int n) μ ∧ ¬ n = 1 := by
              have l := len_ptr hstk
              rw [List.length_map, List.length_reverse, h.len] at l
              exact ⟨_, l, by simp; omega⟩
            have hpop := h.pop
            have hput := hpop.put (e := .t a)
            have pp : cPop (.ptr c) [] μ = .ok (.ptr p) (μ.set c (Cell.lst ((p2 :: ps).reverse.map D.ptr))) := pop_ptr (by rw [hstk, List.reverse_cons, List.map_append]; rfl) rfl
            have nc : c ≠ p := fun z => h.nc (z ▸ List.mem_cons_self)
            have tp : fTuple' [.ptr p] (μ.set c (Cell.lst ((p2 :: ps).reverse.map D.ptr))) = .ok (.tup (exDs a)) (μ.set c (Cell.lst ((p2 :: ps).reverse.map D.ptr))) := tup_ptr (by rw [List.getElem?_set_ne nc]; exact h.its 0 p a rfl rfl)
            have lx := last hpop
            have h2 := hpop.its 0 p2 b rfl rfl
            have lst2 := lseq_ptr h2
            have hb : (exDs b).length < 10000000 := by
              have := ha b (by simp)
              rw [exDs_map, List.length_map]; omega
            have ap : cApp (.ptr p2) [.tup (exDs a)] (μ.set c (Cell.lst ((p2 :: ps).reverse.map D.ptr))) = .ok .non _ := app_ptr h2 (noL_ex (.t a)) hb
            have e0 : step k (a :: b :: r) = some ((b ++ [.t a]) :: r) := by simp [step, h41]
            have z := tail (η := [some T, some (.ptr c), some (.str (S k)), some (.tup (exDs a))]) rfl hput
            have nn : noLs (exDs a) = true := noLs_ex a
            have run : turnB [some T, some (.ptr c), some (.str (S k)), o] μ = if 20 < ((b ++ [.t a]) :: r).length then .rt .non ((μ.set c (Cell.lst ((p2 :: ps).reverse.map D.ptr))).set p2 (.lst (exDs b ++ [exD (.t a)]))) else .nx [some T, some (.ptr c), some (.str (S k)), some (.tup (exDs a))] ((μ.set c (Cell.lst ((p2 :: ps).reverse.map D.ptr))).set p2 (.lst (exDs b ++ [exD (.t a)]))) := by
              unfold turnB
              rw [x_seq]
              have z1 : (sIf (mTst (mOp fEq (mVar 2) (mC (D.str "(")))) (sDrop (mMt cApp (mVar 1) (aCons (mNewC (mLst aNil)) aNil))) (sIf (mTst (mOp fNe (mVar 2) (mC (D.str ")")))) (sDrop (mMt cApp (mOp fIxA (mVar 1) (mNeg (mC (D.int 1)))) (aCons (mVar 2) aNil))) (sIf (mTst (mOp fEq (mCall fLen (aCons (mVar 1) aNil)) (mC (D.int 1)))) (sRet (mC (D.non))) (sSeq (sSet [] 3 (mCall fTuple' (aCons (mMt cPop (mVar 1) aNil) aNil)))
    (sDrop (mMt cApp (mOp fIxA (mVar 1) (mNeg (mC (D.int 1)))) (aCons (mVar 3) aNil))))))) [some T, some (.ptr c), some (.str (S k)), o] μ = .nx [some T, some (.ptr c), some (.str (S k)), some (.tup (exDs a))] ((μ.set c (Cell.lst ((p2 :: ps).reverse.map D.ptr))).set p2 (.lst (exDs b ++ [exD (.t a)]))) := by
                simp [b40, b41, l, one, xk_mt1 _ _ _ _ _ lst, pp, tp, lx, xk_mt1 _ _ _ _ _ lst2, ap, nn, noL, -List.reverse_cons, -List.map_append, -List.map_reverse]
                rfl
              rw [z1, y_nx, z]
            by_cases hh : 20 < ((b ++ [.t a]) :: r).length
            · rw [if_pos hh] at run
              exact .inl ⟨_, run, hput.pre, .inr ⟨_, e0, hh⟩⟩
            · rw [if_neg hh] at run
              exact .inr ⟨_, _, _, _, run, e0, by omega, hput⟩
      · have b41 : (S k == ")") = false := by rw [q41, decide_eq_false h41]
        have hput := h.put (e := .w k)
        have lx := last h
        have h0 := h.its 0 p a rfl rfl
        have lst2 := lseq_ptr h0
        have hb : (exDs a).length < 10000000 := by
          have := ha a (by simp)
          rw [exDs_map, List.length_map]; omega
        have ap : cApp (.ptr p) [.str (S k)] μ = .ok .non _ := app_ptr h0 rfl hb
        have e0 : step k (a :: st) = some ((a ++ [.w k]) :: st) := by simp [step, h40, h41]
        have z := tail (η := [some T, some (.ptr c), some (.str (S k)), o]) rfl hput
        have run : turnB [some T, some (.ptr c), some (.str (S k)), o] μ = if 20 < ((a ++ [.w k]) :: st).length then .rt .non (μ.set p (.lst (exDs a ++ [exD (.w k)]))) else .nx [some T, some (.ptr c), some (.str (S k)), o] (μ.set p (.lst (exDs a ++ [exD (.w k)]))) := by
          unfold turnB
          rw [x_seq]
          have z1 : (sIf (mTst (mOp fEq (mVar 2) (mC (D.str "(")))) (sDrop (mMt cApp (mVar 1) (aCons (mNewC (mLst aNil)) aNil))) (sIf (mTst (mOp fNe (mVar 2) (mC (D.str ")")))) (sDrop (mMt cApp (mOp fIxA (mVar 1) (mNeg (mC (D.int 1)))) (aCons (mVar 2) aNil))) (sIf (mTst (mOp fEq (mCall fLen (aCons (mVar 1) aNil)) (mC (D.int 1)))) (sRet (mC (D.non))) (sSeq (sSet [] 3 (mCall fTuple' (aCons (mMt cPop (mVar 1) aNil) aNil)))
    (sDrop (mMt cApp (mOp fIxA (mVar 1) (mNeg (mC (D.int 1)))) (aCons (mVar 3) aNil))))))) [some T, some (.ptr c), some (.str (S k)), o] μ = .nx [some T, some (.ptr c), some (.str (S k)), o] (μ.set p (.lst (exDs a ++ [exD (.w k)]))) := by
            simp [b40, b41, lx, xk_mt1 _ _ _ _ _ lst2, ap, -List.reverse_cons, -List.map_append, -List.map_reverse]
            rfl
          rw [z1, y_nx, z]
        by_cases hh : 20 < ((a ++ [.w k]) :: st).length
        · rw [if_pos hh] at run
          exact .inl ⟨_, run, hput.pre, .inr ⟨_, e0, hh⟩⟩
        · rw [if_neg hh] at run
          exact .inr ⟨_, _, _, _, run, e0, by omega, hput⟩
end Law
end FP
/-! K01D: read_sexpr. -/
namespace FP
namespace Law
open PySem PySem.Spec L2 PySem.W
open PyProof.Rows hiding St
open SX (S)
theorem ph_read (n : Nat) : Φ (n + 1) .f_read_sexpr = runF 4 (B_read_sexpr (Φ n)) := rfl
theorem MD_nil (st : List (List Ex)) : MD st [] = fin st := rfl
theorem step_is (k : Wd) (a : List Ex) (st : List (List Ex)) : step k (a :: st) = if k = [40] then some ([] :: a :: st) else if k = [41] then match st with
    | b :: r => some ((b ++ [.t a]) :: r)
    | [] => none
    else some ((a ++ [.w k]) :: st) := rfl
theorem step_some {k : Wd} {st st' : List (List Ex)} (h : step k st = some st') : st' ≠ [] ∧ ∀ m, (∀ b ∈ st, b.length + 1 ≤ m) → 1 ≤ m → ∀ b ∈ st', b.length ≤ m := by
  cases st with
  | nil => cases h
  | cons a st =>
    rw [step_is] at h
    split at h
    · cases h
      refine ⟨by simp, fun m hm h1 b hb => ?_⟩
      rcases List.mem_cons.mp hb with rfl | hb
      · exact Nat.zero_le _
      · have := hm b hb; omega
    · split at h
      · cases st with
        | nil => cases h
        | cons b r =>
          cases h
          refine ⟨by simp, fun m hm h1 c hc => ?_⟩
          rcases List.mem_cons.mp hc with rfl | hc
          · have := hm b (by simp); simpa using this
          · have := hm c (by simp [hc]); omega
      · cases h
        refine ⟨by simp, fun m hm h1 c hc => ?_⟩
        rcases List.mem_cons.mp hc with rfl | hc
        · have := hm a (by simp); simpa using this
        · have := hm c (by simp [hc]); omega
theorem loop_ok {B : Mem} {c : Nat} {T : D} : ∀ (ks : List Wd) (st : List (List Ex)) (ps : List Nat) (μ : Mem) (o2 o : Option D), Stk B μ c ps st → st ≠ [] → st.length ≤ 20 → (∀ b ∈ st, b.length + ks.length < 9000000) →
    (∃ μ', forLoop (.nm 2) turnB (strsW ks) [some T, some (.ptr c), o2, o] μ = .rt .non μ' ∧ Pre B μ' ∧ MD st ks = none) ∨
    (∃ μ' ps' st' o2' o', forLoop (.nm 2) turnB (strsW ks) [some T, some (.ptr c), o2, o] μ = .nx [some T, some (.ptr c), o2', o'] μ' ∧ Stk B μ' c ps' st' ∧ MD st ks = fin st')
  | [], st, ps, μ, o2, o, h, _, _, _ => .inr ⟨μ, ps, st, o2, o, rfl, h, MD_nil st⟩
  | k :: ks, st, ps, μ, o2, o, h, hne, hl, hb => by
    cases st with
    | nil => exact absurd rfl hne
    | cons a st =>
      have e : forLoop (.nm 2) turnB (strsW (k :: ks)) [some T, some (.ptr c), o2, o] μ = match turnB [some T, some (.ptr c), some (.str (S k)), o] μ with
        | .nx η2 μ2 => forLoop (.nm 2) turnB (strsW ks) η2 μ2
        | .ct η2 μ2 => forLoop (.nm 2) turnB (strsW ks) η2 μ2
        | .bk η2 μ2 => .nx η2 μ2
        | r => r := rfl
      rcases turn_ok (k := k) (T := T) (o := o) h (fun b hbm => by have := hb b hbm; omega) (by simp at hl; omega) with ⟨μ', r, pre, hs⟩ | ⟨μ', ps', st', o', r, hs, hl', h'⟩
      · rw [r] at e
        refine .inl ⟨μ', e, pre, ?_⟩
        rcases hs with hs | ⟨st', hs, hh⟩
        · unfold MD; rw [hs]
        · unfold MD; rw [hs]; simp only [if_pos hh]
      · rw [r] at e
        obtain ⟨ne, sz⟩ := step_some hs
        have md : MD (a :: st) (k :: ks) = MD st' ks := by
          conv => lhs; unfold MD
          rw [hs]
          simp only [if_neg (show ¬ 20 < st'.length by omega)]
        rcases loop_ok ks st' ps' μ' (some (.str (S k))) o' h' ne hl' (fun b hbm => by
          have := sz (9000000 - 1 - ks.length) (fun b hb2 => by have := hb b hb2; simp at this; omega) (by have := hb a (by simp); simp at this; omega) b hbm
          have := hb a (by simp)
          simp at this
          omega) with ⟨μ2, r2, pre2, m2⟩ | ⟨μ2, ps2, st2, o3, o4, r2, s2, m2⟩
        · exact .inl ⟨μ2, e.trans r2, pre2, md.trans m2⟩
        · exact .inr ⟨μ2, ps2, st2, o3, o4, e.trans r2, s2, md.trans m2⟩
theorem read_ok (n : Nat) (l : List Nat) (B : Mem) (hl : l.length ≤ 100000) (ht : noTab l) (hk : (tk [] l).length ≤ 1000000) : ∃ μ', Φ (n + 3) .f_read_sexpr [.str (S l)] B = .ok (oD (MD [[]] (tk [] l))) μ' ∧ Pre B μ' := by
  rw [ph_read, run_is]
  have tok := tokens_ok n l (B ++ [Cell.lst [], Cell.lst [D.ptr B.length]]) hl ht
  have s0 : Stk B (B ++ [Cell.lst [], Cell.lst [D.ptr B.length]]) (B.length + 1) [B.length] [[]] := by
    refine ⟨Pre.refl.app _, rfl, ?_, fun i p a e1 e2 => ?_, by simp, by simp, by omega, fun p hp => by simp at hp; omega⟩
    · rw [List.getElem?_append_right (by simp)]
      simp
    · cases i with
      | zero =>
        simp at e1 e2
        subst e1 e2
        rw [List.getElem?_append_right (by simp)]
        simp [exDs]
      | succ i => simp at e1
  have key := loop_ok (T := .str (S l)) (tk [] l) [[]] [B.length] _ none none s0 (by simp) (by simp) (fun b hb => by simp at hb; subst hb; simp; omega)
  have body : ∀ η μ, B_read_sexpr (Φ (n + 2)) η μ = B_read_sexpr (Φ (n + 2)) η μ := fun _ _ => rfl
  have e0 : startD 4 [D.str (S l)] = [some (.str (S l)), none, none, none] := rfl
  rw [e0]
  have e1 : B_read_sexpr (Φ (n + 2)) = sSeq (sCell 1 (aCons (mChk noL (mNewC (mLst aNil))) aNil)) (sSeq (sFor [] (.nm 2) (iOf (mFn (Φ (n + 2) .f_sexpr_tokens) 1 [] (aCons (mVar 0) aNil))) turnB)
    (sRet (mIf (bAnd (mTst (mOp fEq (mCall fLen (aCons (mVar 1) aNil)) (mC (D.int 1)))) (mTst (mOp fEq (mCall fLen (aCons (mOp fIxA (mVar 1) (mC (D.int 0))) aNil)) (mC (D.int 1))))) (mOp fIxA (mOp fIxA (mVar 1) (mC (D.int 0))) (mC (D.int 0))) (mC (D.non))))) := rfl
  rw [e1]
  rcases key with ⟨μ', r, pre, md⟩ | ⟨μ', ps', st', o2, o, r, h', md⟩
  · refine ⟨μ', ?_, pre⟩
    rw [md]
    simp [noLs, noL, tok, itemsD, tgOk, tgIn, r, oD, FP.xk_of]
  · rw [md]
    have l1 := len_ptr h'.stk
    rw [List.length_map, List.length_reverse, h'.len] at l1
    by_cases h1 : st'.length = 1
    · match st', ps', h', h1 with
      | [a], [p], h', _ =>
        have ix0 : fIxA (.ptr (B.length + 1)) (.int 0) μ' = .ok (.ptr p) μ' := ix_ptr h'.stk rfl
        have hp := h'.its 0 p a rfl rfl
        have l2 := len_ptr hp
        have hl2 : (exDs a).length = a.length := by rw [exDs_map, List.length_map]
        rw [hl2] at l2
        by_cases h2 : a.length = 1
        · match a, h2 with
          | [x], _ =>
            have ix1 : fIxA (.ptr p) (.int 0) μ' = .ok (exD x) μ' := ix_ptr hp rfl
            refine ⟨μ', ?_, h'.pre⟩
            simp [noLs, noL, tok, itemsD, tgOk, tgIn, r, FP.xk_of, l1, ix0, l2, ix1, fin, oD, noL_ex]
        · have h2' : ¬ ((a.length : Nat) : Int) = 1 := by omega
          have hf : fin [a] = none := by
            unfold fin
            split
            · rename_i x hx
              cases hx
              simp at h2
            · rfl
          refine ⟨μ', ?_, h'.pre⟩
          simp [noLs, noL, tok, itemsD, tgOk, tgIn, r, FP.xk_of, l1, ix0, l2, h2', hf, oD]
      | [a], [], h', _ => have := h'.len; simp at this
      | [a], _ :: _ :: _, h', _ => have := h'.len; simp at this
    · have h1' : ¬ ((st'.length : Nat) : Int) = 1 := by omega
      have hf : fin st' = none := by
        unfold fin
        split
        · simp at h1
        · rfl
      refine ⟨μ', ?_, h'.pre⟩
      simp [noLs, noL, tok, itemsD, tgOk, tgIn, r, FP.xk_of, l1, h1', hf, oD]
/-! ### the machine without the bound, where brackets stand few deep -/
def M : List (List Ex) → List Wd → Option Ex
  | st, [] => fin st
  | st, k :: r => match step k st with
    | some st' => M st' r
    | none => none
/-- how deep the brackets stand at most, k open ones ahead -/
def mx : Nat → List Wd → Nat
  | k, [] => k
  | k, w :: r => if w = [40] then max k (mx (k + 1) r) else if w = [41] then max k (mx (k - 1) r) else mx k r
theorem mx_ge : ∀ (l : List Wd) (k : Nat), k ≤ mx k l
  | [], k => Nat.le_refl _
  | w :: r, k => by
    unfold mx
    split
    · exact Nat.le_max_left _ _
    · split
      · exact Nat.le_max_left _ _
      · exact mx_ge r k
theorem step_len {k : Wd} {st st' : List (List Ex)} (h : step k st = some st') : st'.length = if k = [40] then st.length + 1 else if k = [41] then st.length - 1 else st.length := by
  cases st with
  | nil => cases h
  | cons a st =>
    rw [step_is] at h
    split at h
    · rename_i e
      cases h
      simp [e]
    · rename_i e
      rw [if_neg e]
      split at h
      · rename_i e2
        rw [if_pos e2]
        cases st with
        | nil => cases h
        | cons b r => cases h; simp
      · rename_i e2
        rw [if_neg e2]
        cases h
        simp
theorem MD_M : ∀ (ks : List Wd) (st : List (List Ex)), st ≠ [] → mx (st.length - 1) ks ≤ 19 → MD st ks = M st ks
  | [], st, _, _ => MD_nil st
  | k :: r, st, hne, h => by
    unfold MD M
    cases hs : step k st with
    | none => rfl
    | some st' =>
      have hl := step_len hs
      have ne := (step_some hs).1
      have h0 : 1 ≤ st.length := by cases st with | nil => exact absurd rfl hne | cons _ _ => simp
      have h0' : 1 ≤ st'.length := by cases st' with | nil => exact absurd rfl ne | cons _ _ => simp
      have hm : mx (st'.length - 1) r ≤ 19 := by
        unfold mx at h
        split at h
        · rename_i e
          rw [if_pos e] at hl
          rw [hl, show st.length + 1 - 1 = st.length - 1 + 1 by omega]
          exact Nat.le_trans (Nat.le_max_right _ _) h
        · rename_i e
          rw [if_neg e] at hl
          split at h
          · rename_i e2
            rw [if_pos e2] at hl
            rw [hl]
            exact Nat.le_trans (Nat.le_max_right _ _) h
          · rename_i e2
            rw [if_neg e2] at hl
            rw [hl]
            exact h
      have := mx_ge r (st'.length - 1)
      simp only [if_neg (show ¬ 20 < st'.length by omega)]
      exact MD_M r st' ne hm
/-- from a bracket that is open to its end: (what it holds, the rest) -/
def go : List (List Ex) → List Wd → Option Ex × List Wd
  | _, [] => (none, [])
  | fr, k :: r => match fr with
    | [] => (none, k :: r)
    | a :: st => if k = [40] then go ([] :: a :: st) r else if k = [41] then match st with
      | [] => (some (.t a), r)
      | b :: st => go ((b ++ [.t a]) :: st) r
      else go ((a ++ [.w k]) :: st) r
theorem go_is (a : List Ex) (st : List (List Ex)) (k : Wd) (r : List Wd) : go (a :: st) (k :: r) = if k = [40] then go ([] :: a :: st) r else if k = [41] then match st with
      | [] => (some (.t a), r)
      | b :: st => go ((b ++ [.t a]) :: st) r
      else go ((a ++ [.w k]) :: st) r := rfl
theorem M_cons (st : List (List Ex)) (k : Wd) (r : List Wd) : M st (k :: r) = match step k st with
    | some st' => M st' r
    | none => none := rfl
theorem n41 : ¬ (([41] : Wd) = [40]) := by decide
theorem M_go : ∀ (ks : List Wd) (fr : List (List Ex)) (b : List Ex) (st : List (List Ex)), fr ≠ [] → M (fr ++ b :: st) ks = match go fr ks with
    | (some e, r) => M ((b ++ [e]) :: st) r
    | (none, _) => none
  | [], fr, b, st, hne => by
    unfold M go
    cases fr with
    | nil => exact absurd rfl hne
    | cons a fr =>
      unfold fin
      split
      · rename_i x hx
        cases fr <;> simp at hx
      · rfl
  | k :: r, fr, b, st, hne => by
    cases fr with
    | nil => exact absurd rfl hne
    | cons a fr =>
      rw [List.cons_append, M_cons, step_is, go_is]
      by_cases h40 : k = [40]
      · rw [if_pos h40, if_pos h40]
        exact M_go r ([] :: a :: fr) b st (by simp)
      · by_cases h41 : k = [41]
        · rw [if_neg h40, if_neg h40, if_pos h41, if_pos h41]
          cases fr with
          | nil => rfl
          | cons c fr => exact M_go r ((c ++ [.t a]) :: fr) b st (by simp)
        · rw [if_neg h40, if_neg h40, if_neg h41, if_neg h41]
          exact M_go r ((a ++ [.w k]) :: fr) b st (by simp)
/-- inner brackets are read by themselves -/
theorem go_go : ∀ (ks : List Wd) (fr : List (List Ex)) (b : List Ex) (st : List (List Ex)), fr ≠ [] → go (fr ++ b :: st) ks = match go fr ks with
    | (some e, r) => go ((b ++ [e]) :: st) r
    | (none, r) => (none, r)
  | [], fr, b, st, hne => by
    unfold go; rfl
  | k :: r, fr, b, st, hne => by
    cases fr with
    | nil => exact absurd rfl hne
    | cons a fr =>
      rw [List.cons_append, go_is, go_is]
      by_cases h40 : k = [40]
      · rw [if_pos h40, if_pos h40]
        exact go_go r ([] :: a :: fr) b st (by simp)
      · by_cases h41 : k = [41]
        · rw [if_neg h40, if_neg h40, if_pos h41, if_pos h41]
          cases fr with
          | nil => rfl
          | cons c fr => exact go_go r ((c ++ [.t a]) :: fr) b st (by simp)
        · rw [if_neg h40, if_neg h40, if_neg h41, if_neg h41]
          exact go_go r ((a ++ [.w k]) :: fr) b st (by simp)
/-- one expression, as the law reads it -/
def rd1 : List Wd → Option Ex × List Wd
  | [] => (none, [])
  | k :: r => if k = [41] then (none, k :: r) else if k = [40] then go [[]] r else (some (.w k), r)
def whole (ks : List Wd) : Option Ex := match rd1 ks with
  | (v, []) => v
  | _ => none
/-- at the bottom something stands already: more is too much -/
theorem M_more : ∀ (ks : List Wd) (st : List (List Ex)) (a : List Ex), (2 ≤ a.length ∨ (1 ≤ a.length ∧ (st ≠ [] ∨ ks ≠ []))) → M (st ++ [a]) ks = none
  | [], st, a, h => by
    unfold M fin
    split
    · rename_i x hx
      cases st with
      | nil =>
        simp at hx
        subst hx
        simp at h
      | cons b st => simp at hx
    · rfl
  | k :: r, st, a, h => by
    have ha : 1 ≤ a.length := by omega
    cases st with
    | nil =>
      rw [List.nil_append, M_cons, step_is]
      by_cases h40 : k = [40]
      · rw [if_pos h40]
        exact M_more r [[]] a (.inr ⟨ha, .inl (by simp)⟩)
      · by_cases h41 : k = [41]
        · rw [if_neg h40, if_pos h41]
        · rw [if_neg h40, if_neg h41]
          exact M_more r [] (a ++ [.w k]) (.inl (by simp; omega))
    | cons b st =>
      rw [List.cons_append, M_cons, step_is]
      by_cases h40 : k = [40]
      · rw [if_pos h40]
        exact M_more r ([] :: b :: st) a (.inr ⟨ha, .inl (by simp)⟩)
      · by_cases h41 : k = [41]
        · rw [if_neg h40, if_pos h41]
          cases st with
          | nil => exact M_more r [] (a ++ [.t b]) (.inl (by simp; omega))
          | cons c st => exact M_more r ((c ++ [.t b]) :: st) a (.inr ⟨ha, .inl (by simp)⟩)
        · rw [if_neg h40, if_neg h41]
          exact M_more r ((b ++ [.w k]) :: st) a (.inr ⟨ha, .inl (by simp)⟩)
theorem M_whole (ks : List Wd) : M [[]] ks = whole ks := by
  unfold whole
  cases ks with
  | nil => rfl
  | cons k r =>
    unfold rd1
    by_cases h41 : k = [41]
    · subst h41
      simp only [if_pos]
      unfold M step
      rfl
    · by_cases h40 : k = [40]
      · subst h40
        have e : ¬ (([40] : Wd) = [41]) := by decide
        simp only [if_neg e, if_true]
        have := M_go r [[]] [] [] (by simp)
        have s : M [[]] ([40] :: r) = M ([[]] ++ [[]]) r := rfl
        rw [s, this]
        rcases hg : go [[]] r with ⟨v, r'⟩
        cases v with
        | none => cases r' <;> rfl
        | some x =>
          cases r' with
          | nil => rfl
          | cons k' r' => exact M_more (k' :: r') [] [x] (.inr ⟨by simp, .inr (by simp)⟩)
      · simp only [if_neg h41, if_neg h40]
        have s : M [[]] (k :: r) = M [[.w k]] r := by
          conv => lhs; unfold M step
          simp only [if_neg h40, if_neg h41]
          rfl
        rw [s]
        cases r with
        | nil => rfl
        | cons k' r' => exact M_more (k' :: r') [] [.w k] (.inr ⟨by simp, .inr (by simp)⟩)
end Law
end FP
/-! K01E: the law's own tokens and reading. -/
namespace FP
namespace Law
open PySem PySem.Spec L2 PySem.W
open PyProof.Rows hiding St
open SX (S)
theorem in_sign (c : Nat) (l : List Nat) (μ : Mem) : fInA false (.str (S [c])) (.str (S l)) μ = .ok (.bl (decide (c ∈ l))) μ := by
  simp [fInA, dicOf, fIn, isIn]
theorem add_S (a b : List Nat) (μ : Mem) (h : a.length + b.length ≤ 10000000) : fAdd (.str (S a)) (.str (S b)) μ = .ok (.str (S (a ++ b))) μ := by
  unfold fAdd
  simp only [SX.S_len, h, if_true, SX.S_cat]
/-- the law's turn over a sign -/
def lt : List Wd → Wd → List Nat → List Wd × Wd
  | F, cur, [] => (F, cur)
  | F, cur, c :: r => if c = 40 ∨ c = 41 then lt (F ++ fl cur ++ [[c]]) [] r else if c = 32 ∨ c = 10 then lt (F ++ fl cur) [] r else lt F (cur ++ [c]) r
theorem lt_tk : ∀ (l : List Nat) (F : List Wd) (cur : Wd), (lt F cur (l ++ [32])).1 = F ++ tk cur l
  | [], F, cur => by simp [lt, tk]
  | c :: r, F, cur => by
    rw [List.cons_append]
    unfold lt tk
    split
    · rw [lt_tk r]; simp
    · split
      · rw [lt_tk r]; simp
      · rw [lt_tk r]
def signB : MS := (sSeq (sIf (mTst (mOp (fInA false) (mVar 1) (mC (D.str "() \n")))) (sParO [2] 2 3 (mOp fAddL (mVar 2) (mIf (mTst (mOp fNe (mVar 3) (mC (D.str "")))) (mLst (aCons (mVar 3) aNil)) (mLst aNil))) (mC (D.str ""))) (sSet [2] 3 (mOp fAdd (mVar 3) (mVar 1))))
    (sIf (mTst (mOp (fInA false) (mVar 1) (mC (D.str "()")))) (sAppend [2] 2 (mVar 1)) sNext))
theorem str_S2 : ("() \n" : Str) = S [40, 41, 32, 10] ∧ ("()" : Str) = S [40, 41] ∧ ("() " : Str) = S [40, 41, 32] ∧ ("() a" : Str) = S [40, 41, 32, 97] := by decide +kernel
theorem fl_len (w : Wd) : (fl w).length ≤ 1 := by unfold fl; split <;> simp
theorem sign_ok {T : D} {F : List Wd} {cur : Wd} {c : Nat} (μ : Mem) (hF : F.length < 9000000) (hc : cur.length < 9000000) :
    signB [some T, some (.str (S [c])), some (.lst (strsW F)), some (.str (S cur))] μ = .nx [some T, some (.str (S [c])), some (.lst (strsW (lt F cur [c]).1)), some (.str (S (lt F cur [c]).2))] μ := by
  obtain ⟨z1, z2, _, _⟩ := str_S2
  obtain ⟨s0, _⟩ := str_S
  have i1 := in_sign c [40, 41, 32, 10] μ
  have i2 := in_sign c [40, 41] μ
  rw [← z1] at i1
  rw [← z2] at i2
  have ne : (S cur == "") = decide (cur = []) := by rw [s0, SX.S_beq_eq]
  have lF : (strsW F).length = F.length := by simp [strsW]
  have add : ∀ w : List Wd, w.length ≤ 1 → fAddL (.lst (strsW F)) (.lst (strsW w)) μ = .ok (.lst (strsW (F ++ w))) μ := fun w hw => by
    have lw : (strsW w).length = w.length := by simp [strsW]
    unfold fAddL
    simp only [lF, lw]
    rw [if_pos (by omega)]
    simp [strsW]
  have hlist : mIf (mTst (mOp fNe (mVar 3) (mC (D.str "")))) (mLst (aCons (mVar 3) aNil)) (mLst aNil) [some T, some (.str (S [c])), some (.lst (strsW F)), some (.str (S cur))] μ = .ok (.lst (strsW (fl cur))) μ := by
    by_cases h : cur = []
    · subst h
      simp [ne]
      simp [fl, strsW, s0]
    · simp [ne, h]
      simp [fl, h, strsW]
  by_cases h4 : c = 40 ∨ c = 41
  · have m1 : c ∈ [40, 41, 32, 10] := by rcases h4 with rfl | rfl <;> simp
    have m2 : c ∈ [40, 41] := by rcases h4 with rfl | rfl <;> simp
    rw [decide_eq_true m1] at i1
    rw [decide_eq_true m2] at i2
    have e : lt F cur [c] = (F ++ fl cur ++ [[c]], []) := by simp [lt, h4]
    have a1 := add (fl cur) (fl_len cur)
    have nl := noLs_W (F ++ fl cur)
    have l2 : (strsW (F ++ fl cur)).length < 10000000 := by
      have := fl_len cur
      simp [strsW]; omega
    have l3 : strsW (F ++ fl cur) ++ [.str (S [c])] = strsW (F ++ fl cur ++ [[c]]) := by simp [strsW]
    rw [e]
    unfold signB
    simp only [x_seq, x_sif, x_tst, x_op, x_var, x_c, List.getElem?_cons_succ, List.getElem?_cons_zero, R.bind_ok, xk_op1, i1, xk_tst, lift_ok, xk_sif_t, x_parO, hlist, a1, xk_parO1, xk_parO2, nl, y_nx]
    simp [i2, nl, noL, l2, s0, -List.append_assoc, l3]
  · have m2 : ¬ c ∈ [40, 41] := by simpa using h4
    rw [decide_eq_false m2] at i2
    by_cases h3 : c = 32 ∨ c = 10
    · have m1 : c ∈ [40, 41, 32, 10] := by rcases h3 with rfl | rfl <;> simp
      rw [decide_eq_true m1] at i1
      have e : lt F cur [c] = (F ++ fl cur, []) := by simp [lt, h4, h3]
      have a1 := add (fl cur) (fl_len cur)
      have nl := noLs_W (F ++ fl cur)
      rw [e]
      unfold signB
      simp only [x_seq, x_sif, x_tst, x_op, x_var, x_c, List.getElem?_cons_succ, List.getElem?_cons_zero, R.bind_ok, xk_op1, i1, xk_tst, lift_ok, xk_sif_t, x_parO, hlist, a1, xk_parO1, xk_parO2, nl, y_nx]
      simp [i2, nl, noL, s0]
    · have m1 : ¬ c ∈ [40, 41, 32, 10] := by
        simp only [List.mem_cons, List.not_mem_nil, or_false]
        omega
      rw [decide_eq_false m1] at i1
      have e : lt F cur [c] = (F, cur ++ [c]) := by simp [lt, h4, h3]
      have ad := add_S cur [c] μ (by simp; omega)
      rw [e]
      unfold signB
      simp [i1, i2, ad, noL]
theorem lt_cons (F : List Wd) (cur : Wd) (c : Nat) (r : List Nat) : lt F cur (c :: r) = lt (lt F cur [c]).1 (lt F cur [c]).2 r := by
  conv => lhs; unfold lt
  conv => rhs; arg 1; unfold lt
  conv => rhs; arg 2; unfold lt
  split
  · simp [lt]
  · split
    · simp [lt]
    · simp [lt]
theorem lt_len (F : List Wd) (cur : Wd) (c : Nat) : (lt F cur [c]).1.length ≤ F.length + 2 ∧ (lt F cur [c]).2.length ≤ cur.length + 1 := by
  have := fl_len cur
  unfold lt
  split
  · simp [lt]; omega
  · split
    · simp [lt]; omega
    · simp [lt]
theorem signs_ok {T : D} (μ : Mem) : ∀ (l : List Nat) (F : List Wd) (cur : Wd) (o : Option D), F.length + 2 * l.length < 9000000 → cur.length + l.length < 9000000 →
    ∃ o', forLoop (.nm 1) signB (l.map fun c => D.str (S [c])) [some T, o, some (.lst (strsW F)), some (.str (S cur))] μ = .nx [some T, o', some (.lst (strsW (lt F cur l).1)), some (.str (S (lt F cur l).2))] μ
  | [], F, cur, o, _, _ => ⟨o, rfl⟩
  | c :: r, F, cur, o, h1, h2 => by
    obtain ⟨l1, l2⟩ := lt_len F cur c
    simp only [List.length_cons] at h1 h2
    obtain ⟨o', ih⟩ := signs_ok (T := T) μ r (lt F cur [c]).1 (lt F cur [c]).2 (some (.str (S [c]))) (by omega) (by omega)
    refine ⟨o', ?_⟩
    rw [lt_cons, ← ih]
    have e : forLoop (.nm 1) signB ((c :: r).map fun c => D.str (S [c])) [some T, o, some (.lst (strsW F)), some (.str (S cur))] μ = match signB [some T, some (.str (S [c])), some (.lst (strsW F)), some (.str (S cur))] μ with
        | .nx η2 μ2 => forLoop (.nm 1) signB (r.map fun c => D.str (S [c])) η2 μ2
        | .ct η2 μ2 => forLoop (.nm 1) signB (r.map fun c => D.str (S [c])) η2 μ2
        | .bk η2 μ2 => .nx η2 μ2
        | r => r := rfl
    rw [e, sign_ok μ (by omega) (by omega)]
theorem ph_ltok (n : Nat) : Φ (n + 1) .f__law_tokens = runF 4 (B__law_tokens (Φ n)) := rfl
theorem ltok_is (n : Nat) : B__law_tokens (Φ n) = (sSeq (sParO [2] 2 3 (mLst aNil) (mC (D.str ""))) (sSeq (sFor [2] (.nm 1) (iOfN (mOp fAdd (mVar 0) (mC (D.str " ")))) signB) (sRetOwn [2] 2))) := rfl
theorem noLs_signs : ∀ l : List Nat, noLs (l.map fun c => D.str (S [c])) = true
  | [] => rfl
  | _ :: l => by simp [noLs, noL, noLs_signs l]
theorem ltok_ok (n : Nat) (l : List Nat) (μ : Mem) (hl : l.length ≤ 100000) : Φ (n + 1) .f__law_tokens [.str (S l)] μ = .ok (.lst (strsW (tk [] l))) μ := by
  rw [ph_ltok, run_is, ltok_is]
  obtain ⟨s0, s1, _⟩ := str_S
  have ad := add_S l [32] μ (by simp; omega)
  rw [← s1] at ad
  obtain ⟨o', lp⟩ := signs_ok (T := .str (S l)) μ (l ++ [32]) [] [] none (by simp; omega) (by simp; omega)
  rw [lt_tk, List.nil_append] at lp
  have it : itemsN (.str (S (l ++ [32]))) = some ((l ++ [32]).map fun c => D.str (S [c])) := rfl
  have nl := noLs_signs (l ++ [32])
  have e0 : strsW [] = [] := rfl
  rw [e0, ← s0] at lp
  simp only [x_seq, x_parO, x_Lst, x_nil, R.bind_ok, xk_Lst, startD, lift_ok, xk_parO1, x_c, xk_parO2, y_nx, x_for]
  simp [noLs, noL, ad, it, tgOk, tgIn, nl, lp, -List.map_append]
end Law
end FP
/-! K01F: the law's own reading. -/
namespace FP
namespace Law
open PySem PySem.Spec L2 PySem.W
open PyProof.Rows hiding St
open SX (S)
theorem rd1_is (k : Wd) (r : List Wd) : rd1 (k :: r) = if k = [41] then (none, k :: r) else if k = [40] then go [[]] r else (some (.w k), r) := rfl
theorem go_nil (fr : List (List Ex)) : go fr [] = (none, []) := by cases fr <;> rfl
/-- what is left is the end of what was there; what is read is more than nothing -/
theorem go_suf : ∀ (ks : List Wd) (fr : List (List Ex)), fr ≠ [] → (∃ p, ks = p ++ (go fr ks).2 ∧ ((go fr ks).1 ≠ none → p ≠ [])) ∧ ((go fr ks).1 = none → (go fr ks).2 = [])
  | [], fr, _ => by rw [go_nil]; exact ⟨⟨[], rfl, fun h => absurd rfl h⟩, fun _ => rfl⟩
  | k :: r, fr, hne => by
    have lift : ∀ fr', fr' ≠ [] → (∃ p, k :: r = p ++ (go fr' r).2 ∧ ((go fr' r).1 ≠ none → p ≠ [])) ∧ ((go fr' r).1 = none → (go fr' r).2 = []) := fun fr' h => by
      obtain ⟨⟨p, hp, _⟩, h2⟩ := go_suf r fr' h
      exact ⟨⟨k :: p, by rw [List.cons_append, ← hp], fun _ => by simp⟩, h2⟩
    cases fr with
    | nil => exact absurd rfl hne
    | cons a fr =>
      rw [go_is]
      by_cases h40 : k = [40]
      · rw [if_pos h40]; exact lift _ (by simp)
      · rw [if_neg h40]
        by_cases h41 : k = [41]
        · rw [if_pos h41]
          cases fr with
          | nil => exact ⟨⟨[k], rfl, fun _ => by simp⟩, fun h => by cases h⟩
          | cons b fr => exact lift _ (by simp)
        · rw [if_neg h41]; exact lift _ (by simp)
theorem rd1_suf (ks : List Wd) : ∃ p, ks = p ++ (rd1 ks).2 ∧ ((rd1 ks).1 ≠ none → p ≠ []) := by
  cases ks with
  | nil => exact ⟨[], rfl, fun h => absurd rfl h⟩
  | cons k r =>
    rw [rd1_is]
    by_cases h41 : k = [41]
    · rw [if_pos h41]; exact ⟨[], rfl, fun h => absurd rfl h⟩
    · rw [if_neg h41]
      by_cases h40 : k = [40]
      · rw [if_pos h40]
        obtain ⟨⟨p, hp, _⟩, _⟩ := go_suf r [[]] (by simp)
        exact ⟨k :: p, by rw [List.cons_append, ← hp], fun _ => by simp⟩
      · rw [if_neg h40]; exact ⟨[k], rfl, fun _ => by simp⟩
/-- what is read from brackets is a tuple -/
theorem go_tup : ∀ (ks : List Wd) (fr : List (List Ex)) (e : Ex), (go fr ks).1 = some e → ∃ l, e = .t l
  | [], fr, e, h => by rw [go_nil] at h; cases h
  | k :: r, [], e, h => by cases h
  | k :: r, a :: fr, e, h => by
    rw [go_is] at h
    split at h
    · exact go_tup r _ e h
    · split at h
      · cases fr with
        | nil => cases h; exact ⟨a, rfl⟩
        | cons b fr => exact go_tup r _ e h
      · exact go_tup r _ e h
theorem mx_is (k : Nat) (w : Wd) (r : List Wd) : mx k (w :: r) = if w = [40] then max k (mx (k + 1) r) else if w = [41] then max k (mx (k - 1) r) else mx k r := rfl
theorem mx_go : ∀ (ks : List Wd) (fr : List (List Ex)) (k B : Nat) (e : Ex), fr ≠ [] → (go fr ks).1 = some e → mx (k + fr.length) ks ≤ B → mx k (go fr ks).2 ≤ B
  | [], fr, k, B, e, _, h, _ => by rw [go_nil] at h; cases h
  | w :: r, [], k, B, e, hne, h, _ => absurd rfl hne
  | w :: r, a :: fr, k, B, e, hne, h, hm => by
    rw [go_is] at h ⊢
    rw [mx_is] at hm
    by_cases h40 : w = [40]
    · rw [if_pos h40] at h hm ⊢
      exact mx_go r _ k B e (by simp) h (by
        have := Nat.le_trans (Nat.le_max_right _ _) hm
        simpa [Nat.add_assoc] using this)
    · rw [if_neg h40] at h hm ⊢
      by_cases h41 : w = [41]
      · rw [if_pos h41] at h hm ⊢
        have hm := Nat.le_trans (Nat.le_max_right _ _) hm
        cases fr with
        | nil => simpa using hm
        | cons b fr => exact mx_go r _ k B e (by simp) h (by simpa [Nat.add_assoc] using hm)
      · rw [if_neg h41] at h hm ⊢
        exact mx_go r _ k B e (by simp) h (by simpa using hm)
theorem mx_rd1 (ks : List Wd) (k B : Nat) (e : Ex) (h : (rd1 ks).1 = some e) (hm : mx k ks ≤ B) : mx k (rd1 ks).2 ≤ B := by
  cases ks with
  | nil => cases h
  | cons w r =>
    rw [rd1_is] at h ⊢
    rw [mx_is] at hm
    by_cases h41 : w = [41]
    · rw [if_pos h41] at h; cases h
    · rw [if_neg h41] at h ⊢
      by_cases h40 : w = [40]
      · rw [if_pos h40] at h hm ⊢
        exact mx_go r [[]] k B e (by simp) h (Nat.le_trans (Nat.le_max_right _ _) hm)
      · rw [if_neg h40] at h hm ⊢
        rw [if_neg h41] at hm
        exact hm
theorem ph_lread (n : Nat) : Φ (n + 1) .f__law_read = runF 5 (B__law_read (Φ n)) := rfl
/-- the law's while -/
def readW (F : Nat) : MS := (sSeq (sAsg [3] (.tp [4, 1]) (mFn (Φ F .f__law_read) 3 [] (aCons (mVar 0) (aCons (mVar 1) (aCons (mOp fAdd (mVar 2) (mC (D.int 1))) aNil)))))
    (sSeq (sIf (mTst (mOp fIsN (mVar 4) (mC (D.non)))) (sRet (mTup (aCons (mC (D.non)) (aCons (mVar 1) aNil)))) sNext)
    (sAppend [3] 3 (mVar 4))))
def readC : MB := (bAnd (mTst (mOp fLt (mVar 1) (mCall fLen (aCons (mVar 0) aNil)))) (mTst (mOp fNe (mOp fIxA (mVar 0) (mVar 1)) (mC (D.str ")")))))
theorem lread_is (F : Nat) : B__law_read (Φ F) = (sSeq (sIf (bOr (mTst (mOp fGe (mVar 1) (mCall fLen (aCons (mVar 0) aNil)))) (bOr (mTst (mOp fEq (mOp fIxA (mVar 0) (mVar 1)) (mC (D.str ")")))) (mTst (mOp fGt (mVar 2) (mC (D.int 20)))))) (sRet (mTup (aCons (mC (D.non)) (aCons (mVar 1) aNil)))) sNext)
    (sSeq (sIf (mTst (mOp fNe (mOp fIxA (mVar 0) (mVar 1)) (mC (D.str "(")))) (sRet (mTup (aCons (mOp fIxA (mVar 0) (mVar 1)) (aCons (mOp fAdd (mVar 1) (mC (D.int 1))) aNil)))) sNext)
    (sSeq (sParO [3] 3 1 (mLst aNil) (mOp fAdd (mVar 1) (mC (D.int 1))))
    (sSeq (whileLoop readC (readW F) 1000)
    (sRet (mIf (mTst (mOp fLt (mVar 1) (mCall fLen (aCons (mVar 0) aNil)))) (mTup (aCons (mCall fTuple' (aCons (mVar 3) aNil)) (aCons (mOp fAdd (mVar 1) (mC (D.int 1))) aNil))) (mTup (aCons (mC (D.non)) (aCons (mVar 1) aNil))))))))) := rfl
theorem tok_at {ts : List Wd} {at_ : Nat} {k : Wd} {r : List Wd} (h : ts.drop at_ = k :: r) (μ : Mem) : fIxA (.lst (strsW ts)) (.int (at_ : Nat)) μ = .ok (.str (S k)) μ ∧ at_ < ts.length ∧ ts.drop (at_ + 1) = r := by
  have hl : at_ < ts.length := by
    refine Classical.byContradiction fun n => ?_
    rw [List.drop_eq_nil_of_le (by omega)] at h
    cases h
  have e := List.drop_eq_getElem_cons hl
  rw [h] at e
  obtain ⟨e1, e2⟩ := List.cons.inj e
  have e3 : (strsW ts)[at_]? = some (.str (S k)) := by simp [strsW, hl, e1]
  refine ⟨?_, hl, e2.symm⟩
  simp [fIxA, dicOf, fIx, at_nat e3]
theorem drop_suf {ts r p : List Wd} {at_ : Nat} (h : ts.drop at_ = p ++ r) (ha : at_ ≤ ts.length) : ts.drop (ts.length - r.length) = r ∧ ts.length - r.length = at_ + p.length ∧ r.length + p.length + at_ = ts.length := by
  have e := congrArg List.length h
  rw [List.length_drop, List.length_append] at e
  have e2 : ts.length - r.length = at_ + p.length := by omega
  refine ⟨?_, e2, by omega⟩
  rw [e2, ← List.drop_drop, h]
  simp
theorem lenW (ts : List Wd) (μ : Mem) : fLen [.lst (strsW ts)] μ = .ok (.int ts.length) μ := by
  rw [len_lst]; simp [strsW]
theorem exL (o : Option Ex) : noL (oD o) = true := by cases o with | none => rfl | some e => exact noL_ex e
/-- one expression read from a place -/
def RdOk (m : Nat) : Prop := ∀ (ts : List Wd) (at_ d F : Nat) (μ : Mem), ts.length - at_ ≤ m → at_ ≤ ts.length → ts.length ≤ 900 → 1 ≤ d → d ≤ 20 → 21 ≤ F + d → mx (d - 1) (ts.drop at_) ≤ 18 →
  Φ (F + 1) .f__law_read [.lst (strsW ts), .int (at_ : Nat), .int (d : Nat)] μ = .ok (.tup [oD (rd1 (ts.drop at_)).1, .int ((ts.length - (rd1 (ts.drop at_)).2.length : Nat))]) μ
/-- the rest of brackets -/
def LpOk (m : Nat) : Prop := ∀ (ts : List Wd) (at_ d F W : Nat) (acc : List Ex) (o : Option D) (μ : Mem), ts.length - at_ ≤ m → at_ ≤ ts.length → ts.length ≤ 900 → 1 ≤ d → d ≤ 20 → 21 ≤ F + d → mx d (ts.drop at_) ≤ 18 → m < W → acc.length ≤ at_ →
  (∃ l o' at1, (go [acc] (ts.drop at_)).1 = some (.t l) ∧ whileLoop readC (readW F) W [some (.lst (strsW ts)), some (.int (at_ : Nat)), some (.int (d : Nat)), some (.lst (exDs acc)), o] μ = .nx [some (.lst (strsW ts)), some (.int (at1 : Nat)), some (.int (d : Nat)), some (.lst (exDs l)), o'] μ ∧ at1 < ts.length ∧ at1 + 1 = ts.length - (go [acc] (ts.drop at_)).2.length) ∨
  ((go [acc] (ts.drop at_)).1 = none ∧ ((∃ l o', whileLoop readC (readW F) W [some (.lst (strsW ts)), some (.int (at_ : Nat)), some (.int (d : Nat)), some (.lst (exDs acc)), o] μ = .nx [some (.lst (strsW ts)), some (.int (ts.length : Nat)), some (.int (d : Nat)), some (.lst l), o'] μ) ∨
    whileLoop readC (readW F) W [some (.lst (strsW ts)), some (.int (at_ : Nat)), some (.int (d : Nat)), some (.lst (exDs acc)), o] μ = .rt (.tup [.non, .int (ts.length : Nat)]) μ))
theorem q41 (k : Wd) : (S k == (")" : Str)) = decide (k = [41]) := by
  obtain ⟨_, _, _, _, _, s5, _⟩ := str_S
  rw [s5, SX.S_beq_eq]
theorem q40 (k : Wd) : (S k == ("(" : Str)) = decide (k = [40]) := by
  obtain ⟨_, _, _, _, s4, _⟩ := str_S
  rw [s4, SX.S_beq_eq]
theorem rd_of_lp {m : Nat} (hm : m < 1000) (L : LpOk m) : RdOk (m + 1) := by
  intro ts at_ d F μ h1 h2 h3 h4 h5 h6 h7
  rw [ph_lread, run_is, lread_is]
  have ln := lenW ts μ
  cases hd : ts.drop at_ with
  | nil =>
    have e : at_ = ts.length := by
      have := congrArg List.length hd
      simp at this
      omega
    have z : ((ts.length : Nat) : Int) ≤ (at_ : Nat) := by omega
    simp [startD, ln, z, noL, noLs, rd1, oD, e]
  | cons k r =>
    obtain ⟨ix, hl, hr⟩ := tok_at hd μ
    have z : ¬ ((ts.length : Nat) : Int) ≤ (at_ : Nat) := by omega
    have z2 : ¬ (20 : Int) < (d : Nat) := by omega
    have ed := congrArg List.length hd
    simp only [List.length_drop, List.length_cons] at ed
    rw [rd1_is]
    by_cases h41 : k = [41]
    · have b41 : (S k == ")") = true := by rw [q41, h41]; rfl
      rw [if_pos h41]
      have e : ts.length - (k :: r).length = at_ := by simp; omega
      rw [e]
      simp [startD, ln, z, ix, b41, noL, noLs, oD]
    · have b41 : (S k == ")") = false := by rw [q41, decide_eq_false h41]
      rw [if_neg h41]
      by_cases h40 : k = [40]
      · have b40 : (S k == "(") = true := by rw [q40, h40]; rfl
        rw [if_pos h40]
        have hmx : mx d (ts.drop (at_ + 1)) ≤ 18 := by
          rw [hd, mx_is, if_pos h40] at h7
          have := Nat.le_trans (Nat.le_max_right _ _) h7
          rw [show d - 1 + 1 = d by omega] at this
          rw [hr]
          exact this
        have lp := L ts (at_ + 1) d F 1000 [] none μ (by omega) (by omega) h3 h4 h5 h6 hmx hm (by simp)
        rw [hr] at lp
        have e0 : exDs [] = [] := rfl
        rw [e0] at lp
        have ei : (((at_ + 1 : Nat)) : Int) = (at_ : Int) + 1 := by omega
        rw [ei] at lp
        rcases lp with ⟨l, o', at1, g1, w, a1, a2⟩ | ⟨g1, ⟨l, o', w⟩ | w⟩
        · have zz : ((at1 : Nat) : Int) < (ts.length : Nat) := by omega
          have tp : fTuple' [.lst (exDs l)] μ = .ok (.tup (exDs l)) μ := rfl
          have ea : ((at1 : Nat) : Int) + 1 = ((ts.length - (go [[]] r).2.length : Nat) : Int) := by omega
          rw [g1]
          simp [startD, ln, z, z2, ix, b41, b40, noLs, noL, w, zz, tp, noLs_ex, oD, exD, ea]
        · have gs := (go_suf r [[]] (by simp)).2 g1
          rw [g1, gs]
          have zz : ¬ ((ts.length : Nat) : Int) < (ts.length : Nat) := by omega
          simp [startD, ln, z, z2, ix, b41, b40, noLs, noL, w, oD]
        · have gs := (go_suf r [[]] (by simp)).2 g1
          rw [g1, gs]
          simp [startD, ln, z, z2, ix, b41, b40, noLs, noL, w, oD]
      · have b40 : (S k == "(") = false := by rw [q40, decide_eq_false h40]
        rw [if_neg h40]
        have e : ((at_ : Nat) : Int) + 1 = ((ts.length - r.length : Nat) : Int) := by omega
        simp [startD, ln, z, z2, ix, b41, b40, noL, noLs, oD, exD, e]
theorem lp_of {m : Nat} (R : RdOk m) (L : ∀ j, j < m → LpOk j) : LpOk m := by
  intro ts at_ d F W acc o μ h1 h2 h3 h4 h5 h6 h7 h8 h9
  have ln := lenW ts μ
  obtain ⟨W, rfl⟩ : ∃ w, W = w + 1 := ⟨W - 1, by omega⟩
  have d18 := Nat.le_trans (mx_ge _ _) h7
  obtain ⟨F, rfl⟩ : ∃ f, F = f + 1 := ⟨F - 1, by omega⟩
  have wl : ∀ η μ, whileLoop readC (readW (F + 1)) (W + 1) η μ = liftR (readC η μ) η fun b μ1 => if b = true then match readW (F + 1) η μ1 with
      | .nx η2 μ2 => whileLoop readC (readW (F + 1)) W η2 μ2
      | .ct η2 μ2 => whileLoop readC (readW (F + 1)) W η2 μ2
      | .bk η2 μ2 => .nx η2 μ2
      | r => r
    else .nx η μ1 := fun _ _ => rfl
  rw [wl]
  cases hd : ts.drop at_ with
  | nil =>
    have e : at_ = ts.length := by
      have := congrArg List.length hd
      simp at this
      omega
    subst e
    refine .inr ⟨by rw [go_nil], .inl ⟨exDs acc, o, ?_⟩⟩
    have c : readC [some (.lst (strsW ts)), some (.int (ts.length : Nat)), some (.int (d : Nat)), some (.lst (exDs acc)), o] μ = .ok false μ := by
      simp [readC, ln]
    rw [c]
    simp
  | cons k r =>
    obtain ⟨ix, hl, hr⟩ := tok_at hd μ
    have z : ((at_ : Nat) : Int) < (ts.length : Nat) := by omega
    have ed := congrArg List.length hd
    simp only [List.length_drop, List.length_cons] at ed
    by_cases h41 : k = [41]
    · have b41 : (S k == ")") = true := by rw [q41, h41]; rfl
      have c : readC [some (.lst (strsW ts)), some (.int (at_ : Nat)), some (.int (d : Nat)), some (.lst (exDs acc)), o] μ = .ok false μ := by
        simp [readC, ln, z, ix, b41]
      have g : go [acc] (k :: r) = (some (.t acc), r) := by rw [go_is, if_neg (by rw [h41]; exact n41), if_pos h41]
      rw [c, g]
      exact .inl ⟨acc, o, at_, rfl, by simp, hl, by simp; omega⟩
    · have b41 : (S k == ")") = false := by rw [q41, decide_eq_false h41]
      have c : readC [some (.lst (strsW ts)), some (.int (at_ : Nat)), some (.int (d : Nat)), some (.lst (exDs acc)), o] μ = .ok true μ := by
        simp [readC, ln, z, ix, b41]
      rw [c]
      simp only [lift_ok, if_true]
      -- the inner one
      have rd := R ts at_ (d + 1) F μ h1 h2 h3 (by omega) (by omega) (by omega) (by simpa using h7)
      rw [hd] at rd
      have ei : (((d + 1 : Nat)) : Int) = (d : Int) + 1 := by omega
      rw [ei] at rd
      obtain ⟨p, hp, hne⟩ := rd1_suf (k :: r)
      have gg : go [acc] (k :: r) = match rd1 (k :: r) with
          | (some e, r) => go [acc ++ [e]] r
          | (none, r) => (none, r) := by
        rw [rd1_is, if_neg h41, go_is]
        by_cases h40 : k = [40]
        · rw [if_pos h40, if_pos h40]
          exact go_go r [[]] acc [] (by simp)
        · rw [if_neg h40, if_neg h40, if_neg h41]
      have sn : (rd1 (k :: r)).1 = none → (rd1 (k :: r)).2 = [] := by
        rw [rd1_is, if_neg h41]
        by_cases h40 : k = [40]
        · rw [if_pos h40]; exact (go_suf r [[]] (by simp)).2
        · rw [if_neg h40]; intro h; cases h
      have mxr := fun e h => mx_rd1 (k :: r) d 18 e h (by rw [← hd]; exact h7)
      generalize rd1 (k :: r) = q at rd hp hne gg sn mxr
      obtain ⟨v, r'⟩ := q
      simp only at rd hp hne gg sn mxr
      obtain ⟨hp1, hp2, hp3⟩ := drop_suf (hd.trans hp) h2
      cases v with
      | none =>
        have sn := sn rfl
        subst sn
        have rw1 : readW (F + 1) [some (.lst (strsW ts)), some (.int (at_ : Nat)), some (.int (d : Nat)), some (.lst (exDs acc)), o] μ = .rt (.tup [.non, .int (ts.length : Nat)]) μ := by
          simp [readW, rd, oD, tgOk, tgIn, noL, noLs, bindT, setL, fIsN, isN]
        rw [rw1]
        exact .inr ⟨by rw [gg], .inr rfl⟩
      | some e =>
        have pl : 0 < p.length := List.length_pos_iff.mpr (hne (by simp))
        have nn : fIsN (exD e) .non μ = .ok (.bl false) μ := by cases e <;> rfl
        have al : (exDs acc).length < 10000000 := by rw [exDs_map, List.length_map]; omega
        have rw1 : readW (F + 1) [some (.lst (strsW ts)), some (.int (at_ : Nat)), some (.int (d : Nat)), some (.lst (exDs acc)), o] μ = .nx [some (.lst (strsW ts)), some (.int ((ts.length - r'.length : Nat))), some (.int (d : Nat)), some (.lst (exDs (acc ++ [e]))), some (exD e)] μ := by
          have ex : exDs acc ++ [exD e] = exDs (acc ++ [e]) := by simp [exDs_map]
          simp [readW, rd, oD, tgOk, tgIn, noL, noLs, bindT, setL, nn, noL_ex, al, ex]
        rw [rw1]
        have lp := L (ts.length - (ts.length - r'.length)) (by omega) ts (ts.length - r'.length) d (F + 1) W (acc ++ [e]) (some (exD e)) μ (Nat.le_refl _) (by omega) h3 h4 h5 h6 (by rw [hp1]; exact mxr e rfl) (by omega) (by simp; omega)
        rw [hp1] at lp
        rw [gg]
        exact lp
theorem both : ∀ m : Nat, m < 1000 → RdOk m ∧ LpOk m := by
  intro m
  induction m using Nat.strongRecOn with
  | _ m ih =>
    intro hm
    have R : RdOk m := by
      cases m with
      | zero =>
        have L0 : LpOk 0 → RdOk 1 := rd_of_lp (by omega)
        -- nothing is left: the first test
        intro ts at_ d F μ h1 h2 h3 h4 h5 h6 h7
        have hd : ts.drop at_ = [] := List.drop_eq_nil_of_le (by omega)
        have e : at_ = ts.length := by omega
        have z : ((ts.length : Nat) : Int) ≤ (at_ : Nat) := by omega
        rw [ph_lread, run_is, lread_is, hd]
        simp [startD, lenW ts μ, z, noL, noLs, rd1, oD, e]
      | succ m => exact rd_of_lp (by omega) (ih m (by omega) (by omega)).2
    exact ⟨R, lp_of R fun j hj => (ih j hj (by omega)).2⟩
theorem ph_lwhole (n : Nat) : Φ (n + 1) .f__law_whole = runF 4 (B__law_whole (Φ n)) := rfl
theorem lwhole_ok (n : Nat) (l : List Nat) (μ : Mem) (hl : l.length ≤ 100000) (hk : (tk [] l).length ≤ 900) (hm : mx 0 (tk [] l) ≤ 18) : Φ (n + 23) .f__law_whole [.str (S l)] μ = .ok (oD (whole (tk [] l))) μ := by
  rw [ph_lwhole, run_is]
  have t := ltok_ok (n + 21) l μ hl
  have rd := (both (tk [] l).length (by omega)).1 (tk [] l) 0 1 (n + 21) μ (by omega) (by omega) hk (by omega) (by omega) (by omega) (by simpa using hm)
  rw [List.drop_zero] at rd
  have ln := lenW (tk [] l) μ
  generalize tk [] l = ks at t rd ln
  unfold whole
  obtain ⟨p, hp, _⟩ := rd1_suf ks
  rcases hq : rd1 ks with ⟨v, r⟩
  rw [hq] at rd hp
  simp only at rd hp
  have ei : (((0 : Nat)) : Int) = 0 := rfl
  have ei1 : (((1 : Nat)) : Int) = 1 := rfl
  rw [ei, ei1] at rd
  have hn := exL v
  cases r with
  | nil =>
    have e : ((ks.length - ([] : List Wd).length : Nat) : Int) = ks.length := by simp
    rw [e] at rd
    simp [B__law_whole, startD, t, rd, tgOk, tgIn, bindT, setL, ln, hn]
  | cons k r =>
    have h := congrArg List.length hp
    simp only [List.length_append, List.length_cons] at h
    have z : ¬ ((ks.length - (k :: r).length : Nat) : Int) = (ks.length : Nat) := by simp; omega
    generalize ks.length - (k :: r).length = x at rd z
    simp [B__law_whole, startD, t, rd, tgOk, tgIn, bindT, setL, ln, z, hn, oD, noL]
end Law
end FP
/-! K01G: expressions, their texts, their tokens. -/
namespace FP
namespace Law
open PySem PySem.Spec L2 PySem.W
open PyProof.Rows hiding St
open SX (S)
mutual
def txt : Ex → List Nat
  | .w w => w
  | .t l => 40 :: (TL.joinL [32] (txts l) ++ [41])
def txts : List Ex → List (List Nat)
  | [] => []
  | e :: l => txt e :: txts l
end
mutual
def et : Ex → List Wd
  | .w w => [w]
  | .t l => [40] :: (ets l ++ [[41]])
def ets : List Ex → List Wd
  | [] => []
  | e :: l => et e ++ ets l
end
/-- a word's signs -/
def gc (c : Nat) : Bool := !(c == 40) && !(c == 41) && !(c == 32) && !(c == 10) && !(c == 9)
mutual
def good : Ex → Bool
  | .w w => !(w == []) && w.all gc
  | .t l => goods l
def goods : List Ex → Bool
  | [] => true
  | e :: l => good e && goods l
end
mutual
def hE : Ex → Nat
  | .w _ => 0
  | .t l => hEs l + 1
def hEs : List Ex → Nat
  | [] => 0
  | e :: l => max (hE e) (hEs l)
end
theorem gc_is {c : Nat} (h : gc c = true) : c ≠ 40 ∧ c ≠ 41 ∧ c ≠ 32 ∧ c ≠ 10 ∧ c ≠ 9 := by
  simp [gc] at h
  omega
theorem tk_is (cur : Wd) (c : Nat) (r : List Nat) : tk cur (c :: r) = if c = 40 ∨ c = 41 then fl cur ++ [c] :: tk [] r else if c = 32 ∨ c = 10 then fl cur ++ tk [] r else tk (cur ++ [c]) r := rfl
theorem tk_word : ∀ (w cur : Wd) (x : List Nat), w.all gc = true → tk cur (w ++ x) = tk (cur ++ w) x
  | [], cur, x, _ => by simp
  | c :: w, cur, x, h => by
    simp only [List.all_cons, Bool.and_eq_true] at h
    obtain ⟨h1, h2, h3, h4, _⟩ := gc_is h.1
    rw [List.cons_append, tk_is, if_neg (by omega), if_neg (by omega), tk_word w _ _ h.2]
    simp
theorem tk_br (c : Nat) (r : List Nat) (h : c = 40 ∨ c = 41) : tk [] (c :: r) = [c] :: tk [] r := by
  rw [tk_is, if_pos h]; rfl
theorem tk_sp (r : List Nat) : tk [] (32 :: r) = tk [] r := by
  rw [tk_is, if_neg (by decide), if_pos (by decide)]; rfl
mutual
theorem tk_txt : ∀ (e : Ex) (d : Nat) (r : List Nat), good e = true → (d = 32 ∨ d = 41) → tk [] (txt e ++ d :: r) = et e ++ tk [] (d :: r)
  | .w w, d, r, h, hd => by
    simp only [good, Bool.and_eq_true] at h
    have ne : w ≠ [] := by
      intro z; rw [z] at h; simp at h
    show tk [] (w ++ d :: r) = [w] ++ tk [] (d :: r)
    rw [tk_word w [] _ h.2, List.nil_append, tk_is]
    rcases hd with rfl | rfl
    · rw [if_neg (by decide), if_pos (by decide), tk_sp]
      simp [fl, ne]
    · rw [if_pos (by decide), tk_br _ _ (.inr rfl)]
      simp [fl, ne]
  | .t l, d, r, h, hd => by
    show tk [] (40 :: (TL.joinL [32] (txts l) ++ [41]) ++ d :: r) = ([40] :: (ets l ++ [[41]])) ++ tk [] (d :: r)
    rw [List.cons_append, tk_br _ _ (.inl rfl), List.append_assoc, List.cons_append, List.nil_append, tk_txts l _ (by simpa [good] using h)]
    simp
theorem tk_txts : ∀ (l : List Ex) (r : List Nat), goods l = true → tk [] (TL.joinL [32] (txts l) ++ 41 :: r) = ets l ++ [41] :: tk [] r
  | [], r, _ => by
    show tk [] (41 :: r) = _
    rw [tk_br _ _ (.inr rfl)]
    rfl
  | [e], r, h => by
    have h1 : good e = true := by simpa [goods] using h
    show tk [] (txt e ++ 41 :: r) = (et e ++ []) ++ [41] :: tk [] r
    rw [tk_txt e 41 r h1 (.inr rfl), tk_br _ _ (.inr rfl), List.append_nil]
  | e :: f :: l, r, h => by
    simp only [goods, Bool.and_eq_true] at h
    show tk [] (txt e ++ ([32] ++ TL.joinL [32] (txts (f :: l))) ++ 41 :: r) = (et e ++ ets (f :: l)) ++ [41] :: tk [] r
    rw [List.append_assoc, List.append_assoc, List.cons_append, List.nil_append, tk_txt e 32 _ h.1 (.inl rfl), tk_sp, tk_txts (f :: l) r (by simp [goods, h.2]), List.append_assoc]
end
theorem tk_whole (e : Ex) (h : good e = true) : tk [] (txt e) = et e := by
  cases e with
  | w w =>
    simp only [good, Bool.and_eq_true] at h
    have ne : w ≠ [] := by
      intro z; rw [z] at h; simp at h
    have := tk_word w [] [] h.2
    simp only [List.append_nil, List.nil_append] at this
    show tk [] w = [w]
    rw [this]
    simp [tk, fl, ne]
  | t l =>
    have := tk_txts l [] (by simpa [good] using h)
    show tk [] (40 :: (TL.joinL [32] (txts l) ++ [41])) = [40] :: (ets l ++ [[41]])
    rw [tk_br _ _ (.inl rfl), this]
    rfl
theorem word_ne {w : Wd} (h : w.all gc = true) : w ≠ [40] ∧ w ≠ [41] := by
  constructor <;> (intro z; rw [z] at h; revert h; decide)
mutual
theorem M_et : ∀ (e : Ex) (a : List Ex) (st : List (List Ex)) (r : List Wd), good e = true → M (a :: st) (et e ++ r) = M ((a ++ [e]) :: st) r
  | .w w, a, st, r, h => by
    simp only [good, Bool.and_eq_true] at h
    obtain ⟨h1, h2⟩ := word_ne h.2
    show M (a :: st) (w :: r) = _
    rw [M_cons, step_is, if_neg h1, if_neg h2]
  | .t l, a, st, r, h => by
    show M (a :: st) ([40] :: (ets l ++ [[41]]) ++ r) = _
    rw [List.cons_append, M_cons, step_is, if_pos rfl, List.append_assoc]
    show M ([] :: a :: st) (ets l ++ ([[41]] ++ r)) = _
    rw [M_ets l [] _ _ (by simpa [good] using h), List.nil_append, List.cons_append, List.nil_append, M_cons, step_is, if_neg n41, if_pos rfl]
theorem M_ets : ∀ (l : List Ex) (b : List Ex) (st : List (List Ex)) (r : List Wd), goods l = true → M (b :: st) (ets l ++ r) = M ((b ++ l) :: st) r
  | [], b, st, r, _ => by simp [ets]
  | e :: l, b, st, r, h => by
    simp only [goods, Bool.and_eq_true] at h
    show M (b :: st) ((et e ++ ets l) ++ r) = _
    rw [List.append_assoc, M_et e _ _ _ h.1, M_ets l _ _ _ h.2]
    simp
end
theorem M_self (e : Ex) (h : good e = true) : M [[]] (et e) = some e := by
  have := M_et e [] [] [] h
  rw [List.append_nil] at this
  rw [this]
  rfl
mutual
theorem mx_et : ∀ (e : Ex) (k : Nat) (r : List Wd), good e = true → mx k (et e ++ r) = max (k + hE e) (mx k r)
  | .w w, k, r, h => by
    simp only [good, Bool.and_eq_true] at h
    obtain ⟨h1, h2⟩ := word_ne h.2
    have := mx_ge r k
    show mx k (w :: r) = max (k + 0) (mx k r)
    rw [mx_is, if_neg h1, if_neg h2]
    omega
  | .t l, k, r, h => by
    have g := mx_ge r k
    show mx k ([40] :: (ets l ++ [[41]]) ++ r) = max (k + (hEs l + 1)) (mx k r)
    rw [List.cons_append, mx_is, if_pos rfl, List.append_assoc, mx_ets l _ _ (by simpa [good] using h), List.cons_append, List.nil_append, mx_is, if_neg n41, if_pos rfl, Nat.add_sub_cancel]
    omega
theorem mx_ets : ∀ (l : List Ex) (k : Nat) (r : List Wd), goods l = true → mx k (ets l ++ r) = max (k + hEs l) (mx k r)
  | [], k, r, _ => by
    have g := mx_ge r k
    show mx k r = max (k + 0) (mx k r)
    omega
  | e :: l, k, r, h => by
    simp only [goods, Bool.and_eq_true] at h
    show mx k ((et e ++ ets l) ++ r) = max (k + max (hE e) (hEs l)) (mx k r)
    rw [List.append_assoc, mx_et e _ _ h.1, mx_ets l _ _ h.2]
    omega
end
/-! ### signs: how deep -/
def mc : Nat → List Nat → Nat
  | k, [] => k
  | k, c :: r => if c = 40 then max k (mc (k + 1) r) else if c = 41 then max k (mc (k - 1) r) else mc k r
def ht : Nat → List Nat → Nat
  | k, [] => k
  | k, c :: r => if c = 40 then ht (k + 1) r else if c = 41 then ht (k - 1) r else ht k r
theorem mc_is (k c : Nat) (r : List Nat) : mc k (c :: r) = if c = 40 then max k (mc (k + 1) r) else if c = 41 then max k (mc (k - 1) r) else mc k r := rfl
theorem ht_is (k c : Nat) (r : List Nat) : ht k (c :: r) = if c = 40 then ht (k + 1) r else if c = 41 then ht (k - 1) r else ht k r := rfl
theorem mc_ge : ∀ (l : List Nat) (k : Nat), k ≤ mc k l
  | [], k => Nat.le_refl _
  | c :: r, k => by
    unfold mc
    split
    · exact Nat.le_max_left _ _
    · split
      · exact Nat.le_max_left _ _
      · exact mc_ge r k
theorem mc_app : ∀ (l m : List Nat) (k : Nat), mc k (l ++ m) = max (mc k l) (mc (ht k l) m)
  | [], m, k => by
    have := mc_ge m k
    show mc k m = max k (mc k m)
    omega
  | c :: r, m, k => by
    rw [List.cons_append, mc_is, mc_is, ht_is]
    split
    · rw [mc_app r m]; omega
    · split
      · rw [mc_app r m]; omega
      · rw [mc_app r m]
theorem mc_mono : ∀ (l : List Nat) (k k' : Nat), k ≤ k' + 1 → mc k l ≤ mc k' l + 1
  | [], k, k', h => h
  | c :: r, k, k', h => by
    unfold mc
    split
    · have := mc_mono r (k + 1) (k' + 1) (by omega); omega
    · split
      · have := mc_mono r (k - 1) (k' - 1) (by omega); omega
      · exact mc_mono r k k' h
theorem mc_del (l m : List Nat) (c : Nat) : mc 0 (l ++ m) ≤ mc 0 (l ++ c :: m) + 1 := by
  rw [mc_app, mc_app]
  have hm : mc (ht 0 l) m ≤ mc (ht 0 l) (c :: m) + 1 := by
    conv => rhs; unfold mc
    split
    · have := mc_mono m (ht 0 l) (ht 0 l + 1) (by omega); omega
    · split
      · have := mc_mono m (ht 0 l) (ht 0 l - 1) (by omega); omega
      · omega
  omega
theorem mc_ins (l m : List Nat) (c : Nat) : mc 0 (l ++ c :: m) ≤ mc 0 (l ++ m) + 1 := by
  rw [mc_app, mc_app]
  have g := mc_ge m (ht 0 l)
  have hm : mc (ht 0 l) (c :: m) ≤ mc (ht 0 l) m + 1 := by
    conv => lhs; unfold mc
    split
    · have := mc_mono m (ht 0 l + 1) (ht 0 l) (by omega); omega
    · split
      · have := mc_mono m (ht 0 l - 1) (ht 0 l) (by omega); omega
      · omega
  omega
theorem mc_pre (l m : List Nat) : mc 0 l ≤ mc 0 (l ++ m) := by
  rw [mc_app]; omega
theorem mx_fl (k : Nat) (cur : Wd) (r : List Wd) (h : ∀ c ∈ cur, c ≠ 40 ∧ c ≠ 41) : mx k (fl cur ++ r) = mx k r := by
  unfold fl
  by_cases e : cur = []
  · simp [e]
  · rw [if_neg e, List.cons_append, List.nil_append, mx_is, if_neg (fun z => (h 40 (by rw [z]; simp)).1 rfl), if_neg (fun z => (h 41 (by rw [z]; simp)).2 rfl)]
theorem mx_tk : ∀ (l : List Nat) (cur : Wd) (k : Nat), (∀ c ∈ cur, c ≠ 40 ∧ c ≠ 41) → mx k (tk cur l) = mc k l
  | [], cur, k, h => by
    have := mx_fl k cur [] h
    rw [List.append_nil] at this
    show mx k (fl cur) = k
    rw [this]; rfl
  | c :: r, cur, k, h => by
    rw [tk_is]
    unfold mc
    have nn : ∀ c' ∈ ([] : Wd), c' ≠ 40 ∧ c' ≠ 41 := fun _ z => nomatch z
    by_cases h40 : c = 40
    · subst h40
      rw [if_pos (.inl rfl), mx_fl k cur _ h, mx_is, if_pos rfl, if_pos rfl, mx_tk r [] _ nn]
    · by_cases h41 : c = 41
      · subst h41
        rw [if_pos (.inr rfl), mx_fl k cur _ h, mx_is, if_neg n41, if_pos rfl, if_neg (by decide), if_pos rfl, mx_tk r [] _ nn]
      · rw [if_neg (by omega), if_neg h40, if_neg h41]
        split
        · rw [mx_fl k cur _ h, mx_tk r [] _ nn]
        · refine mx_tk r _ k fun c' hc' => ?_
          rcases List.mem_append.mp hc' with z | z
          · exact h c' z
          · have : c' = c := by simpa using z
            subst this
            exact ⟨h40, h41⟩
theorem tk_len : ∀ (l : List Nat) (cur : Wd), (tk cur l).length ≤ 2 * l.length + 1
  | [], cur => by have := fl_len cur; simpa [tk] using this
  | c :: r, cur => by
    have h := fl_len cur
    have i1 := tk_len r []
    have i2 := tk_len r (cur ++ [c])
    rw [tk_is]
    split
    · simp; omega
    · split
      · simp; omega
      · simp; omega
/-! ### what the machine makes: few items, few deep -/
mutual
def wide (n : Nat) : Ex → Bool
  | .w _ => true
  | .t l => decide (l.length ≤ n) && wides n l
def wides (n : Nat) : List Ex → Bool
  | [] => true
  | e :: l => wide n e && wides n l
end
theorem wides_app (n : Nat) : ∀ (a b : List Ex), wides n (a ++ b) = (wides n a && wides n b)
  | [], b => by simp [wides]
  | e :: a, b => by simp [wides, wides_app n a b, Bool.and_assoc]
theorem hEs_app : ∀ (a b : List Ex), hEs (a ++ b) = max (hEs a) (hEs b)
  | [], b => by simp [hEs]
  | e :: a, b => by simp [hEs, hEs_app a b, Nat.max_assoc]
/-- each frame's items: few, and less deep the higher the frame (frames from the top; H: how deep they may be at the top) -/
def frm (n : Nat) : Nat → List (List Ex) → Prop
  | _, [] => True
  | H, a :: st => wides n a = true ∧ hEs a ≤ H ∧ frm n (H + 1) st
theorem M_made {n : Nat} : ∀ (ks : List Wd) (st : List (List Ex)) (H : Nat) (e : Ex), frm n H st → (∀ b ∈ st, b.length + ks.length ≤ n) → mx (st.length - 1) ks ≤ (st.length - 1) + H → M st ks = some e → wide n e = true ∧ hE e ≤ (st.length - 1) + H
  | [], st, H, e, hf, _, _, hM => by
    have hM : fin st = some e := hM
    unfold fin at hM
    split at hM
    · cases hM
      obtain ⟨h1, h2, _⟩ := hf
      simp only [wides, Bool.and_true] at h1
      simp only [hEs] at h2
      exact ⟨h1, by simp; omega⟩
    · cases hM
  | k :: r, [], H, e, hf, _, _, hM => by cases hM
  | k :: r, a :: st, H, e, hf, hn, hm, hM => by
    obtain ⟨h1, h2, h3⟩ := hf
    rw [M_cons, step_is] at hM
    rw [mx_is] at hm
    simp only [List.length_cons, Nat.add_sub_cancel] at hm ⊢
    have ha := hn a (by simp)
    simp only [List.length_cons] at ha
    by_cases h40 : k = [40]
    · rw [if_pos h40] at hM hm
      have g := mx_ge r (st.length + 1)
      obtain ⟨H, rfl⟩ : ∃ h, H = h + 1 := ⟨H - 1, by omega⟩
      -- what is already there may be as deep as before
      have := M_made (n := n) r ([] :: a :: st) H e ⟨rfl, by simp [hEs], ⟨h1, h2, h3⟩⟩ (fun b hb => by
        rcases List.mem_cons.mp hb with rfl | hb
        · simp; omega
        · have := hn b hb; simp at this; omega) (by simp; omega) hM
      simpa [Nat.add_assoc, Nat.add_comm 1 H] using this
    · rw [if_neg h40] at hM hm
      by_cases h41 : k = [41]
      · rw [if_pos h41] at hM hm
        cases st with
        | nil => cases hM
        | cons b st =>
          obtain ⟨h4, h5, h6⟩ := h3
          have hb := hn b (by simp)
          simp only [List.length_cons, Nat.add_sub_cancel] at hb hm ⊢
          have := M_made (n := n) r ((b ++ [.t a]) :: st) (H + 1) e ⟨by
              rw [wides_app, h4]
              have : a.length ≤ n := by omega
              simp [wides, wide, h1, this], by
              rw [hEs_app]
              simp [hEs, hE]
              omega, h6⟩ (fun c hc => by
            rcases List.mem_cons.mp hc with rfl | hc
            · simp; omega
            · have := hn c (by simp [hc]); simp at this; omega) (by simp; omega) hM
          simp only [List.length_cons, Nat.add_sub_cancel] at this
          exact ⟨this.1, by omega⟩
      · rw [if_neg h41] at hM hm
        have := M_made (n := n) r ((a ++ [.w k]) :: st) H e ⟨by rw [wides_app, h1]; rfl, by rw [hEs_app]; simp [hEs, hE]; omega, h3⟩ (fun c hc => by
          rcases List.mem_cons.mp hc with rfl | hc
          · simp; omega
          · have := hn c (by simp [hc]); simp at this; omega) (by simpa using hm) hM
        simpa using this
mutual
theorem nice_ex {n : Nat} (hn : n ≤ 10000000) : ∀ e : Ex, wide n e = true → nice (exD e) = true
  | .w w, _ => rfl
  | .t l, h => by
    simp only [wide, Bool.and_eq_true, decide_eq_true_eq] at h
    have e1 : (exDs l).length ≤ 10000000 := by rw [exDs_map, List.length_map]; omega
    simp [exD, nice, e1, nices_ex hn l h.2]
theorem nices_ex {n : Nat} (hn : n ≤ 10000000) : ∀ l : List Ex, wides n l = true → nices (exDs l) = true
  | [], _ => rfl
  | e :: l, h => by
    simp only [wides, Bool.and_eq_true] at h
    simp [exDs, nices, nice_ex hn e h.1, nices_ex hn l h.2]
end
mutual
theorem dep_ex : ∀ e : Ex, dep (exD e) = hE e
  | .w w => rfl
  | .t l => by simp [exD, dep, hE, deps_ex l]
theorem deps_ex : ∀ l : List Ex, deps (exDs l) = hEs l
  | [] => rfl
  | e :: l => by simp [exDs, deps, hEs, dep_ex e, deps_ex l]
end
end Law
end FP
/-! Core18: the draw, other cells behind the tape; the tape's predicate. -/
namespace FP
open PySem PySem.Spec L2 PySem.W
open PyProof.Rows hiding St
section
variable (J : Mem)
def tq (l : List D) (i r s : Int) (J : Mem) : Mem := Cell.lst [.lst l, .int i, .int r, .int s] :: J
theorem tq_ix0 (l : List D) (i r s : Int) : fIxA (.ptr 0) (.int 0) (tq l i r s J) = .ok (.lst l) (tq l i r s J) := (Eq.refl _).trans (Eq.refl _)
theorem tq_ix1 (l : List D) (i r s : Int) : fIxA (.ptr 0) (.int 1) (tq l i r s J) = .ok (.int i) (tq l i r s J) := (Eq.refl _).trans (Eq.refl _)
theorem tq_ix2 (l : List D) (i r s : Int) : fIxA (.ptr 0) (.int 2) (tq l i r s J) = .ok (.int r) (tq l i r s J) := (Eq.refl _).trans (Eq.refl _)
theorem tq_ix3 (l : List D) (i r s : Int) : fIxA (.ptr 0) (.int 3) (tq l i r s J) = .ok (.int s) (tq l i r s J) := (Eq.refl _).trans (Eq.refl _)
theorem tq_cs1 (η : Env') (l : List D) (i r s k : Int) : kCS2 0 (.int k) η (.int 1) (tq l i r s J) = .nx η (tq l k r s J) := (Eq.refl _).trans (Eq.refl _)
theorem tq_cs2 (η : Env') (l : List D) (i r s k : Int) : kCS2 0 (.int k) η (.int 2) (tq l i r s J) = .nx η (tq l i k s J) := (Eq.refl _).trans (Eq.refl _)
theorem tq_cs3 (η : Env') (l : List D) (i r s k : Int) : kCS2 0 (.int k) η (.int 3) (tq l i r s J) = .nx η (tq l i r k J) := (Eq.refl _).trans (Eq.refl _)
/-- the tape is the first cell -/
def TapeJ (ns : List Int) (μ : Mem) : Prop := ∃ i r s J, 0 ≤ i ∧ μ = tq (ns.map .int) i r s J
theorem TapeJ.pre {ns : List Int} {μ μ' : Mem} (h : TapeJ ns μ) (p : Pre μ μ') : TapeJ ns μ' := by
  obtain ⟨i, r, s, J, hi, rfl⟩ := h
  obtain ⟨I, rfl⟩ := p
  exact ⟨i, r, s, J ++ I, hi, rfl⟩
structure DrawnJ (ns : List Int) (many : Int) (r : R D) : Prop where
  ex : ∃ (v : Nat) (μ' : Mem), r = .ok (.int v) μ' ∧ (v : Int) < many ∧ TapeJ ns μ'
theorem nextJ {ns : List Int} {μ : Mem} (h : TapeJ ns μ) {many : Int} (hm : 0 < many) (hm2 : many < 1073741824) : DrawnJ ns many (runF 4 B_next [.ptr 0, .int many] μ) := by
  obtain ⟨i, r, s, J, hi, rfl⟩ := h
  rw [run_is]
  have e48 : ∀ (z : Int) (μ : Mem), fMulA (.int z) (.int 69621) μ = .ok (.int (z * 69621)) μ := fun z μ => mul_k (by decide) μ
  have e49 : ∀ (z : Int) (μ : Mem), fMulA (.int z) (.int 40692) μ = .ok (.int (z * 40692)) μ := fun z μ => mul_k (by decide) μ
  have e50 : ∀ (z : Int) (μ : Mem), fMulA (.int z) (.int 48271) μ = .ok (.int (z * 48271)) μ := fun z μ => mul_k (by decide) μ
  have e51 : ∀ (z : Int) (μ : Mem), fDiv (.int z) (.int 5) μ = .ok (.int (z / 5)) μ := fun z μ => div_k (by decide) (by decide) μ
  have e52 : ∀ (z : Int) (μ : Mem), fMod (.int z) (.int 2147483647) μ = .ok (.int (z % 2147483647)) μ := fun z μ => mod_k (by decide) μ
  have e53 : ∀ (z : Int) (μ : Mem), fMod (.int z) (.int many) μ = .ok (.int (z % many)) μ := fun z μ => mod_k hm μ
  have e54 : ∀ (z : Int) (μ : Mem), fDiv (.int z) (.int many) μ = .ok (.int (z / many)) μ := fun z μ => div_k hm hm2 μ
  have nn : ∀ z : Int, 0 ≤ z % many ∧ z % many < many := fun z => ⟨Int.emod_nonneg _ (by omega), Int.emod_lt_of_pos _ hm⟩
  have dn : ∀ (z i' r' s' : Int), 0 ≤ i' → DrawnJ ns many (.ok (.int (z % many)) (tq (ns.map .int) i' r' s' J)) := fun z i' r' s' h => by
    obtain ⟨a, b⟩ := nn z
    have e : (((z % many).toNat : Nat) : Int) = z % many := by omega
    refine ⟨⟨(z % many).toNat, _, by rw [e], by omega, i', r', s', J, h, rfl⟩⟩
  by_cases hr : r = 0
  · subst hr
    by_cases hl : i < ns.length
    · by_cases hb : (if ns.getD i.toNat 0 < 0 then -ns.getD i.toNat 0 else ns.getD i.toNat 0) < 1000000000000000000
      · simp [-xk_cs2, -List.getD_eq_getElem?_getD, B_next, startD, tq_ix0, tq_ix1, tq_ix2, tq_ix3, tq_cs1, tq_cs2, tq_cs3, len_lst, hl, ix_ints hi hl, pow_18, e48, e49, e50, e51, e52, e53, e54, noL, hb]
        exact dn _ _ _ _ (by omega)
      · simp [-xk_cs2, -List.getD_eq_getElem?_getD, B_next, startD, tq_ix0, tq_ix1, tq_ix2, tq_ix3, tq_cs1, tq_cs2, tq_cs3, len_lst, hl, ix_ints hi hl, pow_18, e48, e49, e50, e51, e52, e53, e54, noL, hb]
        exact dn _ _ _ _ (by omega)
    · simp [-xk_cs2, B_next, startD, tq_ix0, tq_ix1, tq_ix2, tq_ix3, tq_cs1, tq_cs2, tq_cs3, len_lst, hl, pow_18, e48, e49, e50, e51, e52, e53, e54, noL]
      exact dn _ _ _ _ (by omega)
  · simp [-xk_cs2, B_next, startD, tq_ix0, tq_ix1, tq_ix2, tq_ix3, tq_cs1, tq_cs2, tq_cs3, len_lst, hr, e53, e54, noL]
    exact dn _ _ _ _ hi
end
theorem lc_step {g : Tg} {tst : MB} {elt : MV} {η η1 : Env'} {d e : D} {ds acc : List D} {μ μ0 μ1 : Mem} (hb : bindT g d η = some η1) (ht : tst η1 μ = .ok true μ0) (he : elt η1 μ0 = .ok e μ1) (hl : acc.length < 10000000) :
    lcLoop g tst elt η (d :: ds) acc μ = lcLoop g tst elt η ds (acc ++ [e]) μ1 := by
  conv => lhs; unfold lcLoop
  simp only [hb, ht, he, noX, R.bind_ok, if_true, hl]
end FP
/-! K01H: the defs over expressions; what is drawn. -/
namespace FP
namespace Law
open PySem PySem.Spec L2 PySem.W
open PyProof.Rows hiding St
open SX (S)
theorem txts_map : ∀ l : List Ex, txts l = l.map txt
  | [] => rfl
  | e :: l => by simp [txts, txts_map l]
theorem joinL_len (z : List Nat) : ∀ l : List (List Nat), (TL.joinL z l).length = (l.map (·.length)).sum + (l.length - 1) * z.length
  | [] => by simp [TL.joinL]
  | [p] => by simp [TL.joinL]
  | p :: q :: r => by
    have ih := joinL_len z (q :: r)
    have e : TL.joinL z (p :: q :: r) = p ++ (z ++ TL.joinL z (q :: r)) := rfl
    rw [e]
    simp only [List.length_append, ih, List.map_cons, List.sum_cons, List.length_cons]
    have : (r.length + 1 + 1 - 1) * z.length = (r.length + 1 - 1) * z.length + z.length := by
      rw [Nat.add_sub_cancel, Nat.add_sub_cancel, Nat.add_mul, Nat.one_mul]
    omega
theorem strs_S : ∀ l : List (List Nat), strsD (l.map fun x => D.str (S x)) = some (l.map S)
  | [] => rfl
  | x :: l => by simp [strsD, strs_S l]
theorem join_Sd (z : List Nat) (l : List (List Nat)) (μ : Mem) (h : (l.map (·.length)).sum + l.length * z.length ≤ 10000000) : fJoin (S z) (.lst (l.map fun x => D.str (S x))) μ = .ok (.str (S (TL.joinL z l))) μ := by
  have e : ((l.map S).map (·.length)).sum + (l.map S).length * (S z).length ≤ 10000000 := by
    rw [SX.lens, List.length_map, SX.S_len]; exact h
  unfold fJoin
  simp only [aseq_lst, strs_S, e, if_true, SX.join_S]
theorem ph_st (n : Nat) : Φ (n + 1) .f_sexpr_text = runF 2 (B_sexpr_text (Φ n)) := rfl
theorem ph_lt (n : Nat) : Φ (n + 1) .f__law_text = runF 2 (B__law_text (Φ n)) := rfl
theorem hE_mem : ∀ {l : List Ex} {e : Ex}, e ∈ l → hE e ≤ hEs l
  | a :: l, e, h => by
    simp only [hEs]
    rcases List.mem_cons.mp h with rfl | h
    · exact Nat.le_max_left _ _
    · exact Nat.le_trans (hE_mem h) (Nat.le_max_right _ _)
theorem sum_mem : ∀ {l : List Nat} {x : Nat}, x ∈ l → x ≤ l.sum
  | a :: l, x, h => by
    rw [List.sum_cons]
    rcases List.mem_cons.mp h with rfl | h
    · omega
    · have := sum_mem h; omega
theorem txt_mem {l : List Ex} {e : Ex} (h : e ∈ l) : (txt e).length ≤ (txt (.t l)).length := by
  have e1 : (txt (.t l)).length = (TL.joinL [32] (txts l)).length + 2 := by simp [txt]
  rw [e1, joinL_len, txts_map, List.map_map]
  have := sum_mem (List.mem_map_of_mem (f := fun e => (txt e).length) h)
  have e2 : (List.map ((fun x => List.length x) ∘ txt) l) = l.map fun e => (txt e).length := rfl
  rw [e2]
  omega
/-- both texts -/
theorem text_ok : ∀ (m : Nat) (e : Ex) (n : Nat) (μ : Mem), hE e ≤ m → (txt e).length ≤ 5000000 → Φ (n + m + 1) .f_sexpr_text [exD e] μ = .ok (.str (S (txt e))) μ ∧ Φ (n + m + 1) .f__law_text [exD e] μ = .ok (.str (S (txt e))) μ := by
  intro m
  induction m with
  | zero =>
    intro e n μ h hl
    cases e with
    | w w => exact ⟨by rw [ph_st, run_is]; simp [B_sexpr_text, startD, exD, tyD, isi, noL, txt], by rw [ph_lt, run_is]; simp [B__law_text, startD, exD, tyD, isi, noL, txt]⟩
    | t l => simp [hE] at h
  | succ m ih =>
    intro e n μ h hl
    cases e with
    | w w => exact ⟨by rw [ph_st, run_is]; simp [B_sexpr_text, startD, exD, tyD, isi, noL, txt], by rw [ph_lt, run_is]; simp [B__law_text, startD, exD, tyD, isi, noL, txt]⟩
    | t l =>
      have hl0 : (TL.joinL [32] (txts l)).length + 2 = (txt (.t l)).length := by simp [txt]
      have hj := joinL_len [32] (txts l)
      have tl : (txts l).length = l.length := by rw [txts_map, List.length_map]
      simp only [List.length_singleton, Nat.mul_one, tl] at hj
      have kids : ∀ d ∈ exDs l, ∃ s : Str, d = d ∧ Φ (n + (m + 1)) .f_sexpr_text [d] μ = .ok (.str s) μ := fun d hd => by
        rw [exDs_map] at hd
        obtain ⟨x, hx, rfl⟩ := List.mem_map.mp hd
        have hx1 := hE_mem hx
        simp only [hE] at h
        exact ⟨_, rfl, (ih x n μ (by omega) (by have := txt_mem hx; omega)).1⟩
      have lc : ∀ (F : FN), (∀ x ∈ l, F [exD x] μ = .ok (.str (S (txt x))) μ) → lcLoop (.nm 1) bTrue (mFn F 1 [] (aCons (mVar 1) aNil)) [some (exD (.t l)), none] (exDs l) [] μ = .ok (.lst ((txts l).map fun x => D.str (S x))) μ := fun F hF => by
        have key : ∀ (l' : List Ex) (acc : List D), (∀ x ∈ l', x ∈ l) → acc.length + l'.length ≤ 10000000 → lcLoop (.nm 1) bTrue (mFn F 1 [] (aCons (mVar 1) aNil)) [some (exD (.t l)), none] (exDs l') acc μ = .ok (.lst (acc ++ (txts l').map fun x => D.str (S x))) μ := by
          intro l'
          induction l' with
          | nil => intro acc _ _; simp [exDs, txts]
          | cons a l' ih' =>
            intro acc hm hc
            simp only [List.length_cons] at hc
            have hc' : acc.length < 10000000 := by omega
            have := ih' (acc ++ [.str (S (txt a))]) (fun x hx => hm x (List.mem_cons_of_mem _ hx)) (by simp; omega)
            have e1 : lcLoop (.nm 1) bTrue (mFn F 1 [] (aCons (mVar 1) aNil)) [some (exD (.t l)), none] (exDs (a :: l')) acc μ = lcLoop (.nm 1) bTrue (mFn F 1 [] (aCons (mVar 1) aNil)) [some (exD (.t l)), none] (exDs l') (acc ++ [.str (S (txt a))]) μ := by
              exact lc_step (ds := exDs l') rfl rfl (by simp [hF a (hm a List.mem_cons_self)]) hc'
            rw [e1, this]
            simp [txts]
        have := key l [] (fun _ h => h) (by simp; omega)
        simpa using this
      have jn := join_Sd [32] (txts l) μ (by simp only [List.length_singleton, Nat.mul_one, tl]; omega)
      obtain ⟨_, s1, _, _, s4, s5, _, _⟩ := str_S
      have kid : ∀ x ∈ l, hE x ≤ m ∧ (txt x).length ≤ 5000000 := fun x hx => by
        have h1 := hE_mem hx
        have h2 := txt_mem hx
        simp only [hE] at h
        exact ⟨by omega, by omega⟩
      have a1 := add_S [40] (TL.joinL [32] (txts l)) μ (by simp; omega)
      have a2 := add_S ([40] ++ TL.joinL [32] (txts l)) [41] μ (by simp; omega)
      rw [← s4] at a1
      rw [← s5] at a2
      have a1 : fAdd (.str "(") (.str (S (TL.joinL [32] (txts l)))) μ = .ok (.str (S (40 :: TL.joinL [32] (txts l)))) μ := a1
      have a2 : fAdd (.str (S (40 :: TL.joinL [32] (txts l)))) (.str ")") μ = .ok (.str (S (txt (.t l)))) μ := a2
      rw [← s1] at jn
      constructor
      · have lc1 := lc (Φ (n + m + 1) .f_sexpr_text) fun x hx => (ih x n μ (kid x hx).1 (kid x hx).2).1
        rw [show n + (m + 1) + 1 = (n + m + 1) + 1 from rfl, ph_st, run_is]
        simp only [exD] at lc1 ⊢
        simp [B_sexpr_text, startD, tyD, isi, noL, FP.xk_of, itemsD, wipeD, lc1, jn, a1, a2]
      · have lc1 := lc (Φ (n + m + 1) .f__law_text) fun x hx => (ih x n μ (kid x hx).1 (kid x hx).2).2
        rw [show n + (m + 1) + 1 = (n + m + 1) + 1 from rfl, ph_lt, run_is]
        simp only [exD] at lc1 ⊢
        simp [B__law_text, startD, tyD, isi, noL, FP.xk_of, itemsD, wipeD, lc1, jn, a1, a2]
/-! is_sexpr of good expressions -/
theorem ph_is (n : Nat) : Φ (n + 1) .f_is_sexpr = runF 3 (B_is_sexpr (Φ n)) := rfl
theorem good_mem : ∀ {l : List Ex} {e : Ex}, goods l = true → e ∈ l → good e = true
  | a :: l, e, h, hm => by
    simp only [goods, Bool.and_eq_true] at h
    rcases List.mem_cons.mp hm with rfl | hm
    · exact h.1
    · exact good_mem h.2 hm
theorem str_S3 : ("() \n\t" : Str) = S [40, 41, 32, 10, 9] := by decide +kernel
theorem allBl_map {α : Type} (b : Bool) : ∀ l : List α, allBl (l.map fun _ => D.bl b) = some (l.map fun _ => b)
  | [] => rfl
  | _ :: l => by simp [allBl, allBl_map b l]
theorem is_ok : ∀ (m : Nat) (e : Ex) (k n : Nat) (μ : Mem), good e = true → (txt e).length ≤ 100000 → hE e ≤ m → k + m ≤ 20 → Φ (n + m + 1) .f_is_sexpr [exD e, .int (k : Nat)] μ = .ok (.bl true) μ := by
  intro m
  have word : ∀ (w : Wd) (k n : Nat) (μ : Mem), good (.w w) = true → w.length ≤ 100000 → Φ (n + 1) .f_is_sexpr [exD (.w w), .int (k : Nat)] μ = .ok (.bl true) μ := fun w k n μ h hl => by
    simp only [good, Bool.and_eq_true] at h
    obtain ⟨s0, _⟩ := str_S
    have ne : (S w == "") = false := by
      rw [s0, SX.S_beq]
      simpa using h.1
    have lc := lc_map (g := .nm 2) (elt := mOp (fInA false) (mVar 2) (mC (D.str "() \n\t"))) (η := [some (.str (S w)), some (.int (k : Nat)), none]) (μ := μ) (fun _ => D.bl false) (w.map fun c => D.str (S [c])) [] (by simp; omega) (fun d hd => by
      obtain ⟨c, hc, rfl⟩ := List.mem_map.mp hd
      have g := gc_is (List.all_eq_true.mp h.2 c hc)
      have i := in_sign c [40, 41, 32, 10, 9] μ
      rw [← str_S3] at i
      have nm : ¬ c ∈ [40, 41, 32, 10, 9] := by simp only [List.mem_cons, List.not_mem_nil, or_false]; omega
      rw [decide_eq_false nm] at i
      exact ⟨_, rfl, by simp [i]⟩)
    have an : fAny [.lst ((w.map fun c => D.str (S [c])).map fun _ => D.bl false)] μ = .ok (.bl false) μ := by
      unfold fAny
      simp only [lseq_lst, allBl_map]
      simp
    rw [List.nil_append] at lc
    have it : itemsD (.str (S w)) = some (w.map fun c => D.str (S [c])) := rfl
    rw [ph_is, run_is]
    simp [-List.map_map, B_is_sexpr, startD, exD, tyD, isi, ne, FP.xk_of, it, wipeD, lc, an, noL]
  induction m with
  | zero =>
    intro e k n μ h hl hh hk
    cases e with
    | w w => exact word w k n μ h hl
    | t l => simp [hE] at hh
  | succ m ih =>
    intro e k n μ h hl hh hk
    cases e with
    | w w => exact word w k (n + (m + 1)) μ h hl
    | t l =>
      have hl0 : (TL.joinL [32] (txts l)).length + 2 = (txt (.t l)).length := by simp [txt]
      have hj := joinL_len [32] (txts l)
      have tl : (txts l).length = l.length := by rw [txts_map, List.length_map]
      simp only [List.length_singleton, Nat.mul_one, tl] at hj
      have lc := lc_map (g := .nm 2) (elt := mFn (Φ (n + m + 1) .f_is_sexpr) 2 [] (aCons (mVar 2) (aCons (mOp fAdd (mVar 1) (mC (D.int 1))) aNil))) (η := [some (exD (.t l)), some (.int (k : Nat)), none]) (μ := μ) (fun _ => D.bl true) (exDs l) [] (by rw [exDs_map]; simp; omega) (fun d hd => by
        rw [exDs_map] at hd
        obtain ⟨x, hx, rfl⟩ := List.mem_map.mp hd
        have h1 := hE_mem hx
        have h2 := txt_mem hx
        simp only [hE] at hh
        have r := ih x (k + 1) n μ (good_mem (by simpa [good] using h) hx) (by omega) (by omega) (by omega)
        have ei : (((k + 1 : Nat)) : Int) = (k : Int) + 1 := by omega
        rw [ei] at r
        exact ⟨_, rfl, by simp [r]⟩)
      have al : fAll [.lst ((exDs l).map fun _ => D.bl true)] μ = .ok (.bl true) μ := by
        unfold fAll
        simp only [lseq_lst, allBl_map]
        simp
      rw [List.nil_append] at lc
      have z : ¬ (20 : Int) ≤ (k : Nat) := by omega
      rw [show n + (m + 1) + 1 = (n + m + 1) + 1 from rfl, ph_is, run_is]
      simp only [exD] at lc ⊢
      simp [B_is_sexpr, startD, tyD, isi, z, FP.xk_of, itemsD, wipeD, lc, al, noL]
/-! what is drawn -/
def wordsL : List Wd := [[97], [98, 57], [61, 120], [36, 115], [49, 50], [58, 61], [35]]
def Dr : Nat → Ex → Prop
  | 0, e => ∃ w ∈ wordsL, e = .w w
  | m + 1, e => (∃ w ∈ wordsL, e = .w w) ∨ ∃ l, e = .t l ∧ l.length ≤ 3 ∧ ∀ x ∈ l, Dr m x
theorem goods_of : ∀ {l : List Ex}, (∀ x ∈ l, good x = true) → goods l = true
  | [], _ => rfl
  | a :: l, h => by simp [goods, h a List.mem_cons_self, goods_of fun x hx => h x (List.mem_cons_of_mem _ hx)]
theorem hEs_of : ∀ {l : List Ex} {n : Nat}, (∀ x ∈ l, hE x ≤ n) → hEs l ≤ n
  | [], _, _ => Nat.zero_le _
  | a :: l, n, h => by
    simp only [hEs]
    exact Nat.max_le.mpr ⟨h a List.mem_cons_self, hEs_of fun x hx => h x (List.mem_cons_of_mem _ hx)⟩
theorem sum_le : ∀ {l : List Nat} {b : Nat}, (∀ x ∈ l, x ≤ b) → l.sum ≤ l.length * b
  | [], _, _ => by simp
  | a :: l, b, h => by
    have h1 := h a List.mem_cons_self
    have h2 := sum_le fun x hx => h x (List.mem_cons_of_mem _ hx)
    rw [List.sum_cons, List.length_cons, Nat.add_mul]
    omega
theorem Dr.word {w : Wd} (h : w ∈ wordsL) : good (.w w) = true ∧ w.length ≤ 2 := by
  simp only [wordsL, List.mem_cons, List.not_mem_nil, or_false] at h
  rcases h with rfl | rfl | rfl | rfl | rfl | rfl | rfl <;> decide
theorem Dr.ok : ∀ (m : Nat) (e : Ex), Dr m e → good e = true ∧ hE e ≤ m ∧ (txt e).length + 4 ≤ 4 ^ (m + 2) ∧ wide 3 e = true
  | 0, e, ⟨w, hw, he⟩ => by
    subst he
    obtain ⟨h1, h2⟩ := Dr.word hw
    exact ⟨h1, by simp [hE], by simp [txt]; omega, rfl⟩
  | m + 1, e, .inl ⟨w, hw, he⟩ => by
    subst he
    obtain ⟨h1, h2⟩ := Dr.word hw
    refine ⟨h1, by simp [hE], ?_, rfl⟩
    have : 4 ^ 2 ≤ 4 ^ (m + 1 + 2) := Nat.pow_le_pow_right (by decide) (by omega)
    simp [txt]; omega
  | m + 1, e, .inr ⟨l, he, hl, hx⟩ => by
    subst he
    have ih := fun x hm => Dr.ok m x (hx x hm)
    refine ⟨by simpa [good] using goods_of fun x hm => (ih x hm).1, by simp only [hE]; have := hEs_of fun x hm => (ih x hm).2.1; omega, ?_, ?_⟩
    · have hl0 : (txt (.t l)).length = (TL.joinL [32] (txts l)).length + 2 := by simp [txt]
      have hj := joinL_len [32] (txts l)
      have tl : (txts l).length = l.length := by rw [txts_map, List.length_map]
      simp only [List.length_singleton, Nat.mul_one, tl] at hj
      have s1 : ((txts l).map (·.length)).sum ≤ l.length * (4 ^ (m + 2) - 4) := by
        have := sum_le (l := (txts l).map (·.length)) (b := 4 ^ (m + 2) - 4) (fun x hx => by
          rw [txts_map, List.map_map] at hx
          obtain ⟨y, hy, rfl⟩ := List.mem_map.mp hx
          have := (ih y hy).2.2.1
          show (txt y).length ≤ _
          omega)
        rwa [List.length_map, tl] at this
      have p1 : 4 ^ (m + 1 + 2) = 4 * 4 ^ (m + 2) := by rw [Nat.pow_succ, Nat.mul_comm]
      have p2 : 4 ^ 2 ≤ 4 ^ (m + 2) := Nat.pow_le_pow_right (by decide) (by omega)
      have s2 : l.length * (4 ^ (m + 2) - 4) ≤ 3 * (4 ^ (m + 2) - 4) := Nat.mul_le_mul_right _ hl
      omega
    · have w : ∀ {l : List Ex}, (∀ x ∈ l, wide 3 x = true) → wides 3 l = true := by
        intro l
        induction l with
        | nil => intro _; rfl
        | cons a l ih' => intro h; simp [wides, h a List.mem_cons_self, ih' fun x hx => h x (List.mem_cons_of_mem _ hx)]
      simp [wide, hl, w fun x hm => (ih x hm).2.2.2]
theorem Dr.len : ∀ (m : Nat) (e : Ex), Dr m e → (txt e).length + 2 ≤ 4 * 3 ^ m
  | 0, e, ⟨w, hw, he⟩ => by
    subst he
    obtain ⟨h1, h2⟩ := Dr.word hw
    simp [txt]; omega
  | m + 1, e, .inl ⟨w, hw, he⟩ => by
    subst he
    obtain ⟨h1, h2⟩ := Dr.word hw
    have : 3 ^ 0 ≤ 3 ^ (m + 1) := Nat.pow_le_pow_right (by decide) (by omega)
    simp [txt]; omega
  | m + 1, e, .inr ⟨l, he, hl, hx⟩ => by
    subst he
    have ih := fun x hm => Dr.len m x (hx x hm)
    have hl0 : (txt (.t l)).length = (TL.joinL [32] (txts l)).length + 2 := by simp [txt]
    have hj := joinL_len [32] (txts l)
    have tl : (txts l).length = l.length := by rw [txts_map, List.length_map]
    simp only [List.length_singleton, Nat.mul_one, tl] at hj
    have s1 : ((txts l).map (·.length)).sum ≤ l.length * (4 * 3 ^ m - 2) := by
      have := sum_le (l := (txts l).map (·.length)) (b := 4 * 3 ^ m - 2) (fun x hx => by
        rw [txts_map, List.map_map] at hx
        obtain ⟨y, hy, rfl⟩ := List.mem_map.mp hx
        have := ih y hy
        show (txt y).length ≤ _
        omega)
      rwa [List.length_map, tl] at this
    have p1 : 3 ^ (m + 1) = 3 * 3 ^ m := by rw [Nat.pow_succ, Nat.mul_comm]
    have p2 : 3 ^ 0 ≤ 3 ^ m := Nat.pow_le_pow_right (by decide) (by omega)
    have s2 : l.length * (4 * 3 ^ m - 2) ≤ 3 * (4 * 3 ^ m - 2) := Nat.mul_le_mul_right _ hl
    omega
mutual
theorem noTab_txt : ∀ e : Ex, good e = true → noTab (txt e)
  | .w w, h => by
    simp only [good, Bool.and_eq_true] at h
    exact fun c hc => (gc_is (List.all_eq_true.mp h.2 c hc)).2.2.2.2
  | .t l, h => by
    intro c hc
    have hc : c ∈ 40 :: (TL.joinL [32] (txts l) ++ [41]) := hc
    rcases List.mem_cons.mp hc with z | hc
    · omega
    · rcases List.mem_append.mp hc with z | z
      · exact noTab_txts l (by simpa [good] using h) c z
      · have : c = 41 := by simpa using z
        omega
theorem noTab_txts : ∀ l : List Ex, goods l = true → noTab (TL.joinL [32] (txts l))
  | [], _ => fun c hc => nomatch hc
  | [e], h => noTab_txt e (by simpa [goods] using h)
  | e :: f :: l, h => by
    simp only [goods, Bool.and_eq_true] at h
    intro c hc
    have hc : c ∈ txt e ++ ([32] ++ TL.joinL [32] (txts (f :: l))) := hc
    rcases List.mem_append.mp hc with z | hc
    · exact noTab_txt e h.1 c z
    · rcases List.mem_append.mp hc with z | z
      · have : c = 32 := by simpa using z
        omega
      · exact noTab_txts (f :: l) (by simp [goods, h.2]) c z
end
theorem ph_next (n : Nat) : Φ (n + 1) .f__law_next = runF 4 B_next := rfl
theorem next_J {ns : List Int} {μ : Mem} (h : TapeJ ns μ) (n : Nat) {many : Int} (h0 : 0 < many) (h1 : many < 1073741824) : ∃ (v : Nat) (μ' : Mem), Φ (n + 1) .f__law_next [.ptr 0, .int many] μ = .ok (.int v) μ' ∧ (v : Int) < many ∧ TapeJ ns μ' := (nextJ h h0 h1).ex
theorem ph_drawn (n : Nat) : Φ (n + 1) .f__law_drawn = runF 3 (B__law_drawn (Φ n)) := rfl
theorem pick_word {v : Nat} (h : v < 7) (μ : Mem) : ∃ w ∈ wordsL, fIxA (.tup [.str "a", .str "b9", .str "=x", .str "$s", .str "12", .str ":=", .str "#"]) (.int v) μ = .ok (exD (.w w)) μ := by
  have z : ("a" : Str) = S [97] ∧ ("b9" : Str) = S [98, 57] ∧ ("=x" : Str) = S [61, 120] ∧ ("$s" : Str) = S [36, 115] ∧ ("12" : Str) = S [49, 50] ∧ (":=" : Str) = S [58, 61] ∧ ("#" : Str) = S [35] := by decide +kernel
  obtain ⟨z0, z1, z2, z3, z4, z5, z6⟩ := z
  rw [z0, z1, z2, z3, z4, z5, z6]
  have : v = 0 ∨ v = 1 ∨ v = 2 ∨ v = 3 ∨ v = 4 ∨ v = 5 ∨ v = 6 := by omega
  rcases this with rfl | rfl | rfl | rfl | rfl | rfl | rfl
  · exact ⟨_, by decide, rfl⟩
  · exact ⟨_, by decide, rfl⟩
  · exact ⟨_, by decide, rfl⟩
  · exact ⟨_, by decide, rfl⟩
  · exact ⟨_, by decide, rfl⟩
  · exact ⟨_, by decide, rfl⟩
  · exact ⟨_, by decide, rfl⟩
theorem drawn_ok {ns : List Int} : ∀ (m n : Nat) (μ : Mem), TapeJ ns μ → ∃ e μ', Φ (n + m + 2) .f__law_drawn [.ptr 0, .int (m : Nat)] μ = .ok (exD e) μ' ∧ Dr m e ∧ TapeJ ns μ' := by
  intro m
  induction m with
  | zero =>
    intro n μ ht
    rw [show n + 0 + 2 = (n + 1) + 1 from rfl, ph_drawn, run_is]
    obtain ⟨v, μ1, e1, l1, t1⟩ := next_J ht n (many := 7) (by decide) (by decide)
    obtain ⟨w, hw, e2⟩ := pick_word (v := v) (by omega) μ1
    refine ⟨.w w, μ1, ?_, ⟨w, hw, rfl⟩, t1⟩
    have nn : noL (exD (.w w)) = true := rfl
    simp [B__law_drawn, startD, e1, e2, nn]
  | succ m ih =>
    intro n μ ht
    rw [show n + (m + 1) + 2 = (n + m + 2) + 1 from rfl, ph_drawn, run_is]
    have nz : ¬ (((m + 1 : Nat)) : Int) = 0 := by omega
    obtain ⟨v, μ1, e1, l1, t1⟩ := next_J ht (n + m + 1) (many := 3) (by decide) (by decide)
    by_cases hv : v = 0
    · obtain ⟨u, μ2, e2, l2, t2⟩ := next_J t1 (n + m + 1) (many := 7) (by decide) (by decide)
      obtain ⟨w, hw, e3⟩ := pick_word (v := u) (by omega) μ2
      refine ⟨.w w, μ2, ?_, .inl ⟨w, hw, rfl⟩, t2⟩
      have nn : noL (exD (.w w)) = true := rfl
      subst hv
      simp [-Int.natCast_add, B__law_drawn, startD, nz, e1, e2, e3, nn]
    · obtain ⟨u, μ2, e2, l2, t2⟩ := next_J t1 (n + m + 1) (many := 4) (by decide) (by decide)
      have hv' : ¬ ((v : Nat) : Int) = 0 := by omega
      obtain ⟨es, μ3, q1, q2, q3⟩ := lc_inv (g := .nm 2) (elt := mFn (Φ (n + m + 2) .f__law_drawn) 2 [] (aCons (mVar 0) (aCons (mOp fSub (mVar 1) (mC (D.int 1))) aNil))) (η := [some (.ptr 0), some (.int ((m + 1 : Nat))), none]) (TapeJ ns) (fun _ d => ∃ e, d = exD e ∧ Dr m e) ((List.range u).map fun i => .int (0 + (i : Nat))) [] μ2 (by simp; omega) t2 (fun d hd μ hμ => by
        obtain ⟨e, μ', r1, r2, r3⟩ := ih n μ hμ
        have ei : (((m + 1 : Nat)) : Int) - 1 = (m : Nat) := by omega
        exact ⟨_, _, μ', rfl, by simp only [x_fn, x_cons, x_var, x_op, x_c, R.bind_ok, xk_op1, sub_int, xk_cons1, x_nil, xk_cons2]; simp [ei, r1], r3, e, rfl, r2⟩)
      have : ∃ l : List Ex, es = exDs l ∧ ∀ x ∈ l, Dr m x := by
        have h2 := fun e he => All2.right (Q := fun d => ∃ e, d = exD e ∧ Dr m e) (fun _ _ h => h) q3 e he
        clear q1 q3
        induction es with
        | nil => exact ⟨[], rfl, fun _ h => nomatch h⟩
        | cons d es ih' =>
          obtain ⟨e, rfl, he⟩ := h2 d List.mem_cons_self
          obtain ⟨l, rfl, hl⟩ := ih' fun x hx => h2 x (List.mem_cons_of_mem _ hx)
          exact ⟨e :: l, rfl, fun x hx => by
            rcases List.mem_cons.mp hx with rfl | hx
            · exact he
            · exact hl x hx⟩
      obtain ⟨l, rfl, hl⟩ := this
      have ll : l.length = u := by
        have := q3.len
        rw [exDs_map] at this
        simpa using this
      refine ⟨.t l, μ3, ?_, .inr ⟨l, rfl, by omega, hl⟩, q2⟩
      have rg := rng1_nat (n := u) (by omega) μ2
      have tp : fTuple' [.lst (exDs l)] μ3 = .ok (.tup (exDs l)) μ3 := rfl
      rw [List.nil_append] at q1
      simp [-xk_rng1, -Int.zero_add, -Int.natCast_add, B__law_drawn, startD, nz, e1, hv, e2, rg, wipeD, q1, tp, noL, noLs_ex, exD]
end Law
end FP
/-! K01I: the law. -/
namespace FP
namespace Law
open PySem PySem.Spec L2 PySem.W
open PyProof.Rows hiding St
open SX (S)
/-! ### blanks put in -/
def Piece (c : Nat) (p : List Nat) : Prop := p = [c] ∨ ((c = 40 ∨ c = 41 ∨ c = 32) ∧ (p = [c, 32] ∨ p = [10, c, 32, 32]))
theorem tk_nl (r : List Nat) : tk [] (10 :: r) = tk [] r := by
  rw [tk_is, if_neg (by decide), if_pos (by decide)]; rfl
theorem tk_c (cur : Wd) (c : Nat) (r : List Nat) (h : c = 40 ∨ c = 41) : tk cur (c :: r) = fl cur ++ [c] :: tk [] r := by rw [tk_is, if_pos h]
theorem tk_b (cur : Wd) (c : Nat) (r : List Nat) (h : c = 32 ∨ c = 10) : tk cur (c :: r) = fl cur ++ tk [] r := by rw [tk_is, if_neg (by omega), if_pos h]
theorem tk_loose : ∀ (l : List Nat) (ps : List (List Nat)), All2 Piece l ps → ∀ cur, tk cur ps.flatten = tk cur l
  | _, _, .nil, cur => rfl
  | c :: l, p :: ps, .cons h t, cur => by
    have ih := tk_loose l ps t
    rw [List.flatten_cons]
    rcases h with rfl | ⟨hc, rfl | rfl⟩
    · rw [List.cons_append, List.nil_append, tk_is, tk_is, ih, ih]
    · show tk cur (c :: 32 :: ps.flatten) = tk cur (c :: l)
      by_cases h4 : c = 40 ∨ c = 41
      · rw [tk_c cur c _ h4, tk_c cur c _ h4, tk_sp, ih]
      · have h3 : c = 32 ∨ c = 10 := by omega
        rw [tk_b cur c _ h3, tk_b cur c _ h3, tk_sp, ih]
    · show tk cur (10 :: c :: 32 :: 32 :: ps.flatten) = tk cur (c :: l)
      rw [tk_b cur 10 _ (.inr rfl)]
      by_cases h4 : c = 40 ∨ c = 41
      · rw [tk_c [] c _ h4, tk_c cur c _ h4, tk_sp, tk_sp, ih]; rfl
      · have h3 : c = 32 ∨ c = 10 := by omega
        rw [tk_b [] c _ h3, tk_b cur c _ h3, tk_sp, tk_sp, ih]; rfl
theorem loose_facts : ∀ (l : List Nat) (ps : List (List Nat)), All2 Piece l ps → ps.flatten.length ≤ 4 * l.length ∧ (noTab l → noTab ps.flatten) ∧ (ps.map (·.length)).sum = ps.flatten.length ∧ TL.joinL [] ps = ps.flatten
  | _, _, .nil => ⟨by simp, fun h => h, rfl, rfl⟩
  | c :: l, p :: ps, .cons h t => by
    obtain ⟨h1, h2, h3, h4⟩ := loose_facts l ps t
    have pl : p.length ≤ 4 := by rcases h with rfl | ⟨_, rfl | rfl⟩ <;> simp
    have el : (p :: ps).flatten.length = p.length + ps.flatten.length := by rw [List.flatten_cons, List.length_append]
    refine ⟨by rw [el, List.length_cons]; omega, fun hn d hd => ?_, by rw [el, List.map_cons, List.sum_cons, h3], ?_⟩
    · rw [List.flatten_cons] at hd
      rcases List.mem_append.mp hd with z | z
      · have nc := hn c List.mem_cons_self
        rcases h with rfl | ⟨_, rfl | rfl⟩
        · have : d = c := by simpa using z
          omega
        · have : d = c ∨ d = 32 := by simpa using z
          omega
        · have : d = 10 ∨ d = c ∨ d = 32 := by simpa using z
          omega
      · exact h2 (fun d hd => hn d (List.mem_cons_of_mem _ hd)) d z
    · cases ps with
      | nil => simp [TL.joinL]
      | cons q ps =>
        have e : TL.joinL [] (p :: q :: ps) = p ++ ([] ++ TL.joinL [] (q :: ps)) := rfl
        rw [e, h4, List.nil_append]
        rfl
theorem str_S4 : ("  " : Str) = S [32, 32] := by decide +kernel
def looseE : MV := (mIf (mTst (mOp (fInA false) (mVar 13) (mC (D.str "() ")))) (mOp fIxA (mTup (aCons (mVar 13) (aCons (mOp fAdd (mVar 13) (mC (D.str " "))) (aCons (mOp fAdd (mOp fAdd (mC (D.str "\n")) (mVar 13)) (mC (D.str "  "))) aNil)))) (mFn (Φ 59 .f__law_next) 2 [] (aCons (mVar 1) (aCons (mC (D.int 3)) aNil)))) (mVar 13))
theorem loose_one {ns : List Int} {μ : Mem} (h : TapeJ ns μ) (c : Nat) (η : Env') (h1 : η[1]? = some (some (.ptr 0))) (h13 : η[13]? = some (some (.str (S [c])))) : ∃ p μ', looseE η μ = .ok (.str (S p)) μ' ∧ TapeJ ns μ' ∧ Piece c p := by
  obtain ⟨_, s1, _, s3, _⟩ := str_S
  obtain ⟨_, _, z3, _⟩ := str_S2
  have i := in_sign c [40, 41, 32] μ
  rw [← z3] at i
  by_cases hc : c = 40 ∨ c = 41 ∨ c = 32
  · have m : c ∈ [40, 41, 32] := by simp only [List.mem_cons, List.not_mem_nil, or_false]; omega
    rw [decide_eq_true m] at i
    obtain ⟨v, μ1, e1, l1, t1⟩ := next_J h 58 (many := 3) (by decide) (by decide)
    have a1 := add_S [c] [32] μ (by simp)
    have a2 := add_S [10] [c] μ (by simp)
    have a3 := add_S ([10] ++ [c]) [32, 32] μ (by simp)
    rw [← s1] at a1
    rw [← s3] at a2
    rw [← str_S4] at a3
    have run : ∀ d, fIxA (.tup [.str (S [c]), .str (S ([c] ++ [32])), .str (S ([10] ++ [c] ++ [32, 32]))]) (.int v) μ1 = .ok d μ1 → looseE η μ = .ok d μ1 := fun d hd => by
      unfold looseE
      simp only [x_if, x_tst, x_op, x_var, x_c, h13, R.bind_ok, xk_op1, i, xk_tst, xk_if_t, x_Tup, x_cons, a1, xk_cons1, a2, a3, x_nil, xk_cons2, xk_Tup, x_fn, h1, xk_fn]
      simp only [List.length_cons, List.length_nil, Nat.reduceAdd, Nat.reduceLeDiff, if_true, R.bind_ok, xk_op1, x_fn, x_cons, x_var, h1, x_c, xk_cons1, x_nil, xk_cons2, xk_fn, List.append_nil]
      have e1 : Φ 59 .f__law_next [.ptr 0, .int 3] μ = .ok (.int v) μ1 := e1
      simp only [e1, R.bind_ok, hd]
    have : v = 0 ∨ v = 1 ∨ v = 2 := by omega
    rcases this with rfl | rfl | rfl
    · exact ⟨_, μ1, run _ rfl, t1, .inl rfl⟩
    · exact ⟨_, μ1, run _ rfl, t1, .inr ⟨hc, .inl rfl⟩⟩
    · exact ⟨_, μ1, run _ rfl, t1, .inr ⟨hc, .inr rfl⟩⟩
  · have m : ¬ c ∈ [40, 41, 32] := by simp only [List.mem_cons, List.not_mem_nil, or_false]; omega
    rw [decide_eq_false m] at i
    refine ⟨[c], μ, ?_, h, .inl rfl⟩
    simp [looseE, h13, i]
theorem all2_signs {P : Nat → List Nat → Prop} : ∀ {l : List Nat} {es : List D}, All2 (fun d e => ∃ c p, d = D.str (S [c]) ∧ e = .str (S p) ∧ P c p) (l.map fun c => D.str (S [c])) es → ∃ ps : List (List Nat), es = ps.map (fun p => .str (S p)) ∧ All2 P l ps
  | [], _, .nil => ⟨[], rfl, .nil⟩
  | c :: l, _, .cons ⟨c', p, h1, h2, h3⟩ t => by
    obtain ⟨ps, rfl, h4⟩ := all2_signs t
    have e := SX.S_inj (D.str.inj h1)
    cases e
    exact ⟨p :: ps, by rw [h2]; rfl, .cons h3 h4⟩
theorem loose_ok {ns : List Int} {μ : Mem} (h : TapeJ ns μ) (l : List Nat) (hl : l.length ≤ 100000) (η : Env') (h1 : η[1]? = some (some (.ptr 0))) (h3 : η[3]? = some (some (.str (S l)))) (h14 : η.length = 14) :
    ∃ ps μ', mM1 fJoin (mC (D.str "")) (mLc (iOf (mVar 3)) (.nm 13) [13] bTrue looseE) η μ = .ok (.str (S ps.flatten)) μ' ∧ TapeJ ns μ' ∧ All2 Piece l ps := by
  obtain ⟨s0, _⟩ := str_S
  obtain ⟨es, μ', q1, q2, q3⟩ := lc_inv (g := .nm 13) (elt := looseE) (η := wipeD η [13]) (TapeJ ns) (fun d e => ∃ c p, d = D.str (S [c]) ∧ e = .str (S p) ∧ Piece c p) (l.map fun c => D.str (S [c])) [] μ (by simp; omega) h (fun d hd μ hμ => by
    obtain ⟨c, _, rfl⟩ := List.mem_map.mp hd
    obtain ⟨p, μ', r1, r2, r3⟩ := loose_one hμ c ((wipeD η [13]).set 13 (some (.str (S [c])))) (by
      simp only [wipeD]
      rw [List.getElem?_set_ne (by decide), List.getElem?_set_ne (by decide)]; exact h1) (by
      rw [List.getElem?_set_self (by simp [wipeD, h14])])
    exact ⟨_, _, μ', rfl, r1, r2, c, p, rfl, rfl, r3⟩)
  obtain ⟨ps, rfl, hp⟩ := all2_signs q3
  obtain ⟨f1, f2, f3, f4⟩ := loose_facts l ps hp
  refine ⟨ps, μ', ?_, q2, hp⟩
  have jn := join_Sd [] ps μ' (by rw [f3, List.length_nil, Nat.mul_zero]; omega)
  rw [← s0, f4] at jn
  rw [List.nil_append] at q1
  have it : itemsD (.str (S l)) = some (l.map fun c => D.str (S [c])) := rfl
  simp only [x_m1, x_c, R.bind_ok, xk_m1, x_lc, x_of, x_var, h3]
  simp only [FP.xk_of, it, R.bind_ok, xk_lc, q1, jn]
/-! ### bent texts -/
theorem sl_take (l : List Nat) (k : Nat) (μ : Mem) (hl : l.length ≤ 100000) : fSl (.str (S l)) none (some (k : Nat)) μ = .ok (.str (S (l.take k))) μ := by
  have e : cutS (S l) none (some ((k : Nat) : Int)) = S (l.take k) := by
    unfold cutS
    rw [HT.sIx_none, HT.sIx_nat, SX.S_len]
    simp only [List.drop_zero, Nat.sub_zero]
    congr 2
    rw [← List.take_take]
    simp
  have z : (S l).length ≤ 10000000 := by rw [SX.S_len]; omega
  unfold fSl
  simp only [z, if_true, e]
theorem sl_drop (l : List Nat) (k : Nat) (μ : Mem) (hl : l.length ≤ 100000) : fSl (.str (S l)) (some (k : Nat)) none μ = .ok (.str (S (l.drop k))) μ := by
  have e : cutS (S l) (some ((k : Nat) : Int)) none = S (l.drop k) := by
    unfold cutS
    rw [HT.sIx_none, HT.sIx_nat, SX.S_len]
    congr 2
    rw [List.take_of_length_le (by rw [List.length_drop]; exact Nat.le_refl _)]
    by_cases h : k ≤ l.length
    · rw [Nat.min_eq_left h]
    · rw [Nat.min_eq_right (by omega), List.drop_length, List.drop_eq_nil_of_le (by omega)]
  have z : (S l).length ≤ 10000000 := by rw [SX.S_len]; omega
  unfold fSl
  simp only [z, if_true, e]
theorem pick_sign {v : Nat} (h : v < 4) (μ : Mem) : ∃ c, c ≠ 9 ∧ fIxA (.str "() a") (.int v) μ = .ok (.str (S [c])) μ := by
  obtain ⟨_, _, _, z⟩ := str_S2
  rw [z]
  have : v = 0 ∨ v = 1 ∨ v = 2 ∨ v = 3 := by omega
  rcases this with rfl | rfl | rfl | rfl
  · exact ⟨40, by decide, rfl⟩
  · exact ⟨41, by decide, rfl⟩
  · exact ⟨32, by decide, rfl⟩
  · exact ⟨97, by decide, rfl⟩
structure Fine (b : List Nat) : Prop where
  len : b.length ≤ 400
  tab : noTab b
  mc : mc 0 b ≤ 5
theorem same_S : ∀ n, (fun n => Φ n .f__law_same) (n + 1) = runF 3 (B_same ((fun n => Φ n .f__law_same) n)) := fun _ => rfl
theorem same_phi (n : Nat) (d : D) (μ : Mem) (h : nice d = true) (h2 : dep d ≤ n) : Φ (n + 1) .f__law_same [d, d] μ = .ok (.bl true) μ := same_ok (S := fun n => Φ n .f__law_same) same_S n d μ h h2
theorem fine_read {b : List Nat} (h : Fine b) (B : Mem) : ∃ μ', Φ 59 .f_read_sexpr [.str (S b)] B = .ok (oD (whole (tk [] b))) μ' ∧ Pre B μ' ∧ (∀ μ, Φ 59 .f__law_whole [.str (S b)] μ = .ok (oD (whole (tk [] b))) μ) ∧ ∀ μ, Φ 59 .f__law_same [oD (whole (tk [] b)), oD (whole (tk [] b))] μ = .ok (.bl true) μ := by
  have tl := tk_len b []
  have mx0 : mx 0 (tk [] b) ≤ 5 := by rw [mx_tk b [] 0 (fun _ z => nomatch z)]; exact h.mc
  have hl := h.len
  obtain ⟨μ', e, p⟩ := read_ok 56 b B (by omega) h.tab (by omega)
  have md : MD [[]] (tk [] b) = whole (tk [] b) := by
    rw [MD_M _ _ (by simp) (by simpa using Nat.le_trans mx0 (by decide)), M_whole]
  rw [md] at e
  refine ⟨μ', e, p, fun μ => lwhole_ok 36 b μ (by omega) (by omega) (by omega), fun μ => ?_⟩
  refine same_phi 58 _ μ ?_ ?_
  · cases hw : whole (tk [] b) with
    | none => rfl
    | some e =>
      rw [← M_whole] at hw
      exact nice_ex (n := 2000) (by decide) e (M_made (tk [] b) [[]] 5 e ⟨rfl, by simp [hEs], trivial⟩ (fun b' hb => by simp at hb; subst hb; simp; omega) (by simpa using mx0) hw).1
  · cases hw : whole (tk [] b) with
    | none => simp [oD, dep]
    | some e =>
      rw [← M_whole] at hw
      have := (M_made (n := 2000) (tk [] b) [[]] 5 e ⟨rfl, by simp [hEs], trivial⟩ (fun b' hb => by simp at hb; subst hb; simp; omega) (by simpa using mx0) hw).2
      show dep (exD e) ≤ 58
      rw [dep_ex]
      simp at this
      omega
def bentB : MS := (sSeq (sPar [] 11 12 (mFn (Φ 59 .f__law_next) 2 [] (aCons (mVar 1) (aCons (mOp fAdd (mCall fLen (aCons (mVar 3) aNil)) (mC (D.int 1))) aNil))) (mOp fIxA (mC (D.str "() a")) (mFn (Φ 59 .f__law_next) 2 [] (aCons (mVar 1) (aCons (mC (D.int 4)) aNil)))))
    (sSeq (sSet [] 8 (mOp fIxA (mTup (aCons (mOp fAdd (mSl (mVar 3) oNone (oSome (mVar 11))) (mSl (mVar 3) (oSome (mOp fAdd (mVar 11) (mC (D.int 1)))) oNone)) (aCons (mOp fAdd (mOp fAdd (mSl (mVar 3) oNone (oSome (mVar 11))) (mVar 12)) (mSl (mVar 3) (oSome (mVar 11)) oNone)) (aCons (mSl (mVar 3) oNone (oSome (mVar 11))) aNil)))) (mFn (Φ 59 .f__law_next) 2 [] (aCons (mVar 1) (aCons (mC (D.int 3)) aNil)))))
    (sIf (bNot (mTst (mFn (Φ 59 .f__law_same) 2 [] (aCons (mFn (Φ 59 .f_read_sexpr) 1 [] (aCons (mVar 8) aNil)) (aCons (mFn (Φ 59 .f__law_whole) 1 [] (aCons (mVar 8) aNil)) aNil))))) (sRet (mC (D.bl false))) sNext)))
theorem bent_ok {ns : List Int} {μ : Mem} (h : TapeJ ns μ) {T : List Nat} (hT : T.length ≤ 390) (ht : noTab T) (hm : mc 0 T ≤ 4) (a b d e : D) (o5 o8 o11 o12 : Option D) :
    ∃ μ' p8 p11 p12, bentB [some a, some (.ptr 0), some b, some (.str (S T)), some d, o5, none, none, o8, none, none, o11, o12, none] μ = .nx [some a, some (.ptr 0), some b, some (.str (S T)), some d, o5, none, none, p8, none, none, p11, p12, none] μ' ∧ TapeJ ns μ' := by
  obtain ⟨k, μ1, e1, l1, t1⟩ := next_J h 58 (many := ((T.length + 1 : Nat) : Int)) (by omega) (by omega)
  obtain ⟨v, μ2, e2, l2, t2⟩ := next_J t1 58 (many := 4) (by decide) (by decide)
  obtain ⟨c, c9, e3⟩ := pick_sign (v := v) (by omega) μ2
  obtain ⟨w, μ3, e4, l4, t3⟩ := next_J t2 58 (many := 3) (by decide) (by decide)
  have hk : k ≤ T.length := by omega
  have len0 : fLen [.str (S T)] μ = .ok (.int (T.length : Nat)) μ := by
    have z : (S T).length ≤ 10000000 := by rw [SX.S_len]; omega
    show (if (S T).length ≤ 10000000 then R.ok (D.int ((S T).length : Nat)) μ else .stuck) = _
    rw [if_pos z, SX.S_len]
  have ei : ((T.length : Nat) : Int) + 1 = ((T.length + 1 : Nat) : Int) := by omega
  have e1 : Φ 59 .f__law_next [.ptr 0, .int ((T.length : Nat) + 1)] μ = .ok (.int k) μ1 := by rw [ei]; exact e1
  have e2 : Φ 59 .f__law_next [.ptr 0, .int 4] μ1 = .ok (.int v) μ2 := e2
  have e4 : Φ 59 .f__law_next [.ptr 0, .int 3] μ2 = .ok (.int w) μ3 := e4
  have s1 := sl_take T k μ2 (by omega)
  have s2 := sl_drop T (k + 1) μ2 (by omega)
  have s3 := sl_drop T k μ2 (by omega)
  have ek : (((k + 1 : Nat)) : Int) = (k : Int) + 1 := by omega
  rw [ek] at s2
  have tk1 : (T.take k).length = k := by rw [List.length_take]; omega
  have dr1 : (T.drop (k + 1)).length = T.length - (k + 1) := by rw [List.length_drop]
  have dr0 : (T.drop k).length = T.length - k := by rw [List.length_drop]
  have a1 := add_S (T.take k) (T.drop (k + 1)) μ2 (by omega)
  have a2 := add_S (T.take k) [c] μ2 (by simp; omega)
  have a3 := add_S (T.take k ++ [c]) (T.drop k) μ2 (by simp; omega)
  have tabs : ∀ x, x ∈ T.take k ∨ x ∈ T.drop k ∨ x ∈ T.drop (k + 1) ∨ x = c → x ≠ 9 := fun x hx => by
    rcases hx with z | z | z | z
    · exact ht x (List.mem_of_mem_take z)
    · exact ht x (List.mem_of_mem_drop z)
    · exact ht x (List.mem_of_mem_drop z)
    · rw [z]; exact c9
  have pick : ∃ bt, Fine bt ∧ fIxA (.tup [.str (S (T.take k ++ T.drop (k + 1))), .str (S (T.take k ++ [c] ++ T.drop k)), .str (S (T.take k))]) (.int w) μ3 = .ok (.str (S bt)) μ3 := by
    have : w = 0 ∨ w = 1 ∨ w = 2 := by omega
    have td : T.take k ++ T.drop k = T := List.take_append_drop k T
    rcases this with rfl | rfl | rfl
    · refine ⟨_, ⟨by simp; omega, fun x hx => ?_, ?_⟩, rfl⟩
      · rcases List.mem_append.mp hx with z | z
        · exact tabs x (.inl z)
        · exact tabs x (.inr (.inr (.inl z)))
      · by_cases hh : k < T.length
        · have q := mc_del (T.take k) (T.drop (k + 1)) T[k]
          rw [← List.drop_eq_getElem_cons hh, td] at q
          omega
        · rw [List.drop_eq_nil_of_le (by omega), List.append_nil]
          have q := mc_pre (T.take k) (T.drop k)
          rw [td] at q
          omega
    · refine ⟨_, ⟨by simp; omega, fun x hx => ?_, ?_⟩, rfl⟩
      · rcases List.mem_append.mp hx with z | z
        · rcases List.mem_append.mp z with z | z
          · exact tabs x (.inl z)
          · exact tabs x (.inr (.inr (.inr (by simpa using z))))
        · exact tabs x (.inr (.inl z))
      · have q := mc_ins (T.take k) (T.drop k) c
        rw [td] at q
        rw [List.append_assoc, List.cons_append, List.nil_append]
        omega
    · refine ⟨_, ⟨by omega, fun x hx => tabs x (.inl hx), ?_⟩, rfl⟩
      have q := mc_pre (T.take k) (T.drop k)
      rw [td] at q
      omega
  obtain ⟨bt, fb, e5⟩ := pick
  obtain ⟨μ4, r1, r2, r3, r4⟩ := fine_read fb μ3
  refine ⟨μ4, some (.str (S bt)), some (.int k), some (.str (S [c])), ?_, t3.pre r2⟩
  unfold bentB
  rw [x_seq]
  have st1 : sPar [] 11 12 (mFn (Φ 59 .f__law_next) 2 [] (aCons (mVar 1) (aCons (mOp fAdd (mCall fLen (aCons (mVar 3) aNil)) (mC (D.int 1))) aNil))) (mOp fIxA (mC (D.str "() a")) (mFn (Φ 59 .f__law_next) 2 [] (aCons (mVar 1) (aCons (mC (D.int 4)) aNil)))) [some a, some (.ptr 0), some b, some (.str (S T)), some d, o5, none, none, o8, none, none, o11, o12, none] μ = .nx [some a, some (.ptr 0), some b, some (.str (S T)), some d, o5, none, none, o8, none, none, some (.int k), some (.str (S [c])), none] μ2 := by
    simp [len0, e1, e2, e3]
  rw [st1, y_nx, x_seq]
  have st2 : (mOp fIxA (mTup (aCons (mOp fAdd (mSl (mVar 3) oNone (oSome (mVar 11))) (mSl (mVar 3) (oSome (mOp fAdd (mVar 11) (mC (D.int 1)))) oNone)) (aCons (mOp fAdd (mOp fAdd (mSl (mVar 3) oNone (oSome (mVar 11))) (mVar 12)) (mSl (mVar 3) (oSome (mVar 11)) oNone)) (aCons (mSl (mVar 3) oNone (oSome (mVar 11))) aNil)))) (mFn (Φ 59 .f__law_next) 2 [] (aCons (mVar 1) (aCons (mC (D.int 3)) aNil)))) [some a, some (.ptr 0), some b, some (.str (S T)), some d, o5, none, none, o8, none, none, some (.int k), some (.str (S [c])), none] μ2 = .ok (.str (S bt)) μ3 := by
    simp only [x_op, x_Tup, x_cons, x_sl, x_var, List.getElem?_cons_succ, List.getElem?_cons_zero, R.bind_ok, xk_sl0, x_oNone, xk_sl1, x_oSome, xk_some, xk_sl2, s1, xk_op1, x_c, add_int, s2, a1, xk_cons1, a2, s3, a3, x_nil, xk_cons2, xk_Tup]
    simp only [List.length_cons, List.length_nil, Nat.reduceAdd, Nat.reduceLeDiff, if_true, R.bind_ok, xk_op1, x_fn, x_cons, x_var, List.getElem?_cons_succ, List.getElem?_cons_zero, x_c, xk_cons1, x_nil, xk_cons2, xk_fn, List.append_nil, e4, e5]
  rw [x_set, st2]
  simp [r1, r3, r4]
/-! ### many brackets -/
def nest : Nat → Ex
  | 0 => .w [97]
  | k + 1 => .t [nest k]
theorem nest_facts : ∀ k : Nat, good (nest k) = true ∧ hE (nest k) = k ∧ (txt (nest k)).length = 2 * k + 1 ∧ noTab (txt (nest k)) ∧ wide 1 (nest k) = true ∧ ∃ r, et (nest k) = List.replicate k [40] ++ r
  | 0 => ⟨rfl, rfl, rfl, fun c hc => by
      have : c = 97 := by simpa [nest, txt] using hc
      omega, rfl, _, rfl⟩
  | k + 1 => by
    obtain ⟨h1, h2, h3, h4, h5, r, h6⟩ := nest_facts k
    have et1 : txt (nest (k + 1)) = 40 :: (txt (nest k) ++ [41]) := rfl
    refine ⟨by simp [nest, good, goods, h1], by simp [nest, hE, hEs, h2], by rw [et1]; simp [h3]; omega, fun c hc => ?_, by simp [nest, wide, wides, h5], r ++ [] ++ [[41]], ?_⟩
    · rw [et1] at hc
      rcases List.mem_cons.mp hc with z | hc
      · omega
      · rcases List.mem_append.mp hc with z | z
        · exact h4 c z
        · have : c = 41 := by simpa using z
          omega
    · show [40] :: ((et (nest k) ++ []) ++ [[41]]) = _
      rw [h6]
      simp [List.replicate_succ]
theorem MD_deep : ∀ (j : Nat) (st : List (List Ex)) (r : List Wd), st ≠ [] → st.length ≤ 20 → 20 < st.length + j → MD st (List.replicate j [40] ++ r) = none
  | 0, st, r, _, h1, h2 => by omega
  | j + 1, [], r, h, _, _ => absurd rfl h
  | j + 1, a :: st, r, h, h1, h2 => by
    rw [List.replicate_succ, List.cons_append]
    have e : MD (a :: st) ([40] :: (List.replicate j [40] ++ r)) = if 20 < ([] :: a :: st).length then none else MD ([] :: a :: st) (List.replicate j [40] ++ r) := rfl
    rw [e]
    by_cases hh : 20 < ([] :: a :: st).length
    · rw [if_pos hh]
    · rw [if_neg hh]
      exact MD_deep j _ r (by simp) (by omega) (by simp at h2 ⊢; omega)
theorem MD_nest (k : Nat) : MD [[]] (tk [] (txt (nest k))) = if k ≤ 19 then some (nest k) else none := by
  obtain ⟨h1, h2, _, _, _, r, h6⟩ := nest_facts k
  rw [tk_whole _ h1]
  by_cases hk : k ≤ 19
  · rw [if_pos hk]
    have m := mx_et (nest k) 0 [] h1
    rw [List.append_nil, h2] at m
    have m0 : mx 0 ([] : List Wd) = 0 := rfl
    rw [MD_M _ _ (by simp) (by simp; rw [m, m0]; omega), M_self _ h1]
  · rw [if_neg hk, h6]
    exact MD_deep k [[]] r (by simp) (by simp) (by simp; omega)
theorem nest_is : ∀ (j d n : Nat) (μ : Mem), d ≤ 20 → Φ (n + j + 1) .f_is_sexpr [exD (nest j), .int (d : Nat)] μ = .ok (.bl (decide (d + j ≤ 20))) μ
  | 0, d, n, μ, hd => by
    have := is_ok 0 (nest 0) d n μ rfl (by decide) (by decide) (by omega)
    rw [this, decide_eq_true (by omega)]
  | j + 1, d, n, μ, hd => by
    rw [show n + (j + 1) + 1 = (n + j + 1) + 1 from rfl, ph_is, run_is]
    have e : exD (nest (j + 1)) = .tup [exD (nest j)] := rfl
    rw [e]
    by_cases h20 : d = 20
    · subst h20
      have z : decide (20 + (j + 1) ≤ 20) = false := decide_eq_false (by omega)
      rw [z]
      simp [B_is_sexpr, startD, tyD, isi, noL]
    · have ih := nest_is j (d + 1) n μ (by omega)
      have ei : (((d + 1 : Nat)) : Int) = (d : Int) + 1 := by omega
      rw [ei] at ih
      have z : ¬ (20 : Int) ≤ (d : Nat) := by omega
      have zz : decide (d + 1 + j ≤ 20) = decide (d + (j + 1) ≤ 20) := by
        congr 1
        rw [Nat.add_assoc, Nat.add_comm 1 j]
      rw [zz] at ih
      generalize decide (d + (j + 1) ≤ 20) = b at ih
      have lc := lc_map (g := .nm 2) (elt := mFn (Φ (n + j + 1) .f_is_sexpr) 2 [] (aCons (mVar 2) (aCons (mOp fAdd (mVar 1) (mC (D.int 1))) aNil))) (η := [some (.tup [exD (nest j)]), some (.int (d : Nat)), none]) (μ := μ) (fun _ => D.bl b) [exD (nest j)] [] (by simp) (fun x hx => by
        have : x = exD (nest j) := by simpa using hx
        subst this
        exact ⟨_, rfl, by simp [ih]⟩)
      have al : fAll [.lst [D.bl b]] μ = .ok (.bl b) μ := by cases b <;> rfl
      simp only [List.nil_append, List.map_cons, List.map_nil] at lc
      simp [B_is_sexpr, startD, tyD, isi, z, FP.xk_of, itemsD, wipeD, lc, al, noL]
theorem ph_deep (n : Nat) : Φ (n + 1) .f__law_deep = runF 2 (B__law_deep (Φ n)) := rfl
theorem nest_deep : ∀ (j n : Nat) (μ : Mem), Φ (n + j + 1) .f__law_deep [exD (nest j)] μ = .ok (.int (j + 1 : Nat)) μ
  | 0, n, μ => by
    rw [ph_deep, run_is]
    simp [B__law_deep, startD, nest, exD, tyD, isi, noL]
  | j + 1, n, μ => by
    rw [show n + (j + 1) + 1 = (n + j + 1) + 1 from rfl, ph_deep, run_is]
    have e : exD (nest (j + 1)) = .tup [exD (nest j)] := rfl
    rw [e]
    have ih := nest_deep j n μ
    have lc := lc_map (g := .nm 1) (elt := mFn (Φ (n + j + 1) .f__law_deep) 1 [] (aCons (mVar 1) aNil)) (η := [some (.tup [exD (nest j)]), none]) (μ := μ) (fun _ => D.int ((j + 1 : Nat))) [exD (nest j)] [] (by simp) (fun x hx => by
      have : x = exD (nest j) := by simpa using hx
      subst this
      exact ⟨_, rfl, by simp [-Int.natCast_add, ih]⟩)
    simp only [List.nil_append, List.map_cons, List.map_nil] at lc
    have ad : fAdd (.lst [.int 0]) (.lst [.int ((j + 1 : Nat))]) μ = .ok (.lst [.int 0, .int ((j + 1 : Nat))]) μ := rfl
    have mxx : fMax [.lst [.int 0, .int ((j + 1 : Nat))]] μ = .ok (.int ((j + 1 : Nat))) μ := by
      have : bigI [0, ((j + 1 : Nat) : Int)] = ((j + 1 : Nat) : Int) := by
        show (if bigI [((j + 1 : Nat) : Int)] ≤ 0 then (0 : Int) else bigI [((j + 1 : Nat) : Int)]) = _
        have e : bigI [((j + 1 : Nat) : Int)] = ((j + 1 : Nat) : Int) := rfl
        rw [e, if_neg (by omega)]
      show R.ok (D.int (bigI [0, ((j + 1 : Nat) : Int)])) μ = _
      rw [this]
    have fin : (1 : Int) + ((j + 1 : Nat) : Int) = ((j + 1 + 1 : Nat) : Int) := by omega
    simp [-Int.natCast_add, B__law_deep, startD, tyD, isi, FP.xk_of, itemsD, wipeD, lc, ad, mxx, fin, noL]
end Law
end FP
/-! K01J: the law is True. -/
namespace FP
namespace Law
open PySem PySem.Spec L2 PySem.W
open PyProof.Rows hiding St
open SX (S)
def odds : List D := [.str "", .str "a b", .str "(", .lst [.str "a"], .tup [.str "a", .non], .int 1, .non, .tup [.str "a", .str ""], .tup [.str "a\n"]]
theorem odd_is (μ : Mem) : ∀ d ∈ odds, Φ 59 .f_is_sexpr [d, .int 1] μ = .ok (.bl false) μ := by
  intro d hd
  simp only [odds, List.mem_cons, List.not_mem_nil, or_false] at hd
  rcases hd with rfl | rfl | rfl | rfl | rfl | rfl | rfl | rfl | rfl <;> rfl
def texts : List D := [.str "", .str ")", .str "a b", .str "() ()"]
theorem text_no (B : Mem) : ∀ d ∈ texts, ∃ μ', Φ 59 .f_read_sexpr [d] B = .ok .non μ' ∧ Pre B μ' := by
  intro d hd
  have z : ("" : Str) = S [] ∧ (")" : Str) = S [41] ∧ ("a b" : Str) = S [97, 32, 98] ∧ ("() ()" : Str) = S [40, 41, 32, 40, 41] := by decide +kernel
  obtain ⟨z1, z2, z3, z4⟩ := z
  simp only [texts, List.mem_cons, List.not_mem_nil, or_false] at hd
  have key : ∀ l : List Nat, l.length ≤ 10 → noTab l → MD [[]] (tk [] l) = none → ∃ μ', Φ 59 .f_read_sexpr [.str (S l)] B = .ok .non μ' ∧ Pre B μ' := fun l hl ht hm => by
    have tl := tk_len l []
    obtain ⟨μ', e, p⟩ := read_ok 56 l B (by omega) ht (by omega)
    rw [hm] at e
    exact ⟨μ', e, p⟩
  rcases hd with rfl | rfl | rfl | rfl
  · rw [z1]; exact key _ (by decide) (by unfold noTab; decide) rfl
  · rw [z2]; exact key _ (by decide) (by unfold noTab; decide) rfl
  · rw [z3]; exact key _ (by decide) (by unfold noTab; decide) rfl
  · rw [z4]; exact key _ (by decide) (by unfold noTab; decide) rfl
theorem ph_law : Φ 60 .f_law = runF 14 (B_law (Φ 59)) := rfl
theorem ints_noL : ∀ ns : List Int, noLs (ns.map D.int) = true
  | [] => rfl
  | _ :: ns => by simp [noLs, noL, ints_noL ns]
def st1 : MS := (sCell 1 (aCons (mChk retOk (mCall fList (aCons (mVar 0) aNil))) (aCons (mChk noL (mC (D.int 0))) (aCons (mChk noL (mC (D.int 0))) (aCons (mChk noL (mC (D.int 1))) aNil)))))
def st5 : MS := (sIf (bNot (mTst (mFn (Φ 59 .f__law_same) 2 [] (aCons (mLst (aCons (mFn (Φ 59 .f_sexpr_text) 1 [] (aCons (mVar 2) aNil)) (aCons (mFn (Φ 59 .f_read_sexpr) 1 [] (aCons (mVar 3) aNil)) (aCons (mFn (Φ 59 .f_read_sexpr) 1 [] (aCons (mVar 4) aNil)) (aCons (mFn (Φ 59 .f_sexpr_tokens) 1 [] (aCons (mVar 4) aNil)) (aCons (mFn (Φ 59 .f_is_sexpr) 2 [D.int 1] (aCons (mVar 2) aNil)) aNil)))))) (aCons (mLst (aCons (mVar 3) (aCons (mVar 2) (aCons (mVar 2) (aCons (mFn (Φ 59 .f__law_tokens) 1 [] (aCons (mVar 4) aNil)) (aCons (mC (D.bl true)) aNil)))))) aNil))))) (sRet (mC (D.bl false))) sNext)
def st9 : MS := (sIf (bOr (bNot (mTst (mFn (Φ 59 .f__law_same) 2 [] (aCons (mLst (aCons (mFn (Φ 59 .f_is_sexpr) 2 [D.int 1] (aCons (mVar 9) aNil)) (aCons (mFn (Φ 59 .f_read_sexpr) 1 [] (aCons (mFn (Φ 59 .f__law_text) 1 [] (aCons (mVar 9) aNil)) aNil)) aNil))) (aCons (mLst (aCons (mOp fLe (mVar 10) (mC (D.int 19))) (aCons (mIf (mTst (mOp fLe (mVar 10) (mC (D.int 19)))) (mVar 9) (mC (D.non))) aNil))) aNil))))) (mTst (mOp fNe (mFn (Φ 59 .f__law_deep) 1 [] (aCons (mVar 9) aNil)) (mOp fAdd (mVar 10) (mC (D.int 1)))))) (sRet (mC (D.bl false))) sNext)
def st11 : MS := (sRetF (mFn (Φ 59 .f__law_same) 2 [] (aCons (mLst (aCons (mLc (iOf (mVar 7)) (.nm 13) [13] bTrue (mFn (Φ 59 .f_is_sexpr) 2 [D.int 1] (aCons (mVar 13) aNil))) (aCons (mLc (iOf (mTup (aCons (mC (D.str "")) (aCons (mC (D.str ")")) (aCons (mC (D.str "a b")) (aCons (mC (D.str "() ()")) aNil)))))) (.nm 13) [13] bTrue (mFn (Φ 59 .f_read_sexpr) 1 [] (aCons (mVar 13) aNil))) (aCons (mC (D.int 20)) aNil)))) (aCons (mLst (aCons (mOp fMulA (mLst (aCons (mC (D.bl false)) aNil)) (mC (D.int 9))) (aCons (mOp fMulA (mLst (aCons (mC (D.non)) aNil)) (mC (D.int 4))) (aCons (mC (D.int 20)) aNil)))) aNil))))
theorem law_is : B_law (Φ 59) = sSeq st1 (sSeq (sSet [] 2 (mFn (Φ 59 .f__law_drawn) 2 [] (aCons (mVar 1) (aCons (mC (D.int 4)) aNil)))) (sSeq (sSet [] 3 (mFn (Φ 59 .f__law_text) 1 [] (aCons (mVar 2) aNil)))
    (sSeq (sSet [] 4 (mM1 fJoin (mC (D.str "")) (mLc (iOf (mVar 3)) (.nm 13) [13] bTrue looseE))) (sSeq st5 (sSeq (sFor [] (.nm 5) (iRange1 (aCons (mC (D.int 4)) aNil)) bentB)
    (sSeq (sPar [] 9 10 (mC (D.str "a")) (mOp fAdd (mC (D.int 15)) (mFn (Φ 59 .f__law_next) 2 [] (aCons (mVar 1) (aCons (mC (D.int 8)) aNil)))))
    (sSeq (sFor [] (.nm 6) (iRange1 (aCons (mVar 10) aNil)) (sSet [] 9 (mTup (aCons (mVar 9) aNil)))) (sSeq st9
    (sSeq (sSet [] 7 (mLst (aCons (mC (D.str "")) (aCons (mC (D.str "a b")) (aCons (mC (D.str "(")) (aCons (mLst (aCons (mC (D.str "a")) aNil)) (aCons (mTup (aCons (mC (D.str "a")) (aCons (mC (D.non)) aNil))) (aCons (mC (D.int 1)) (aCons (mC (D.non)) (aCons (mTup (aCons (mC (D.str "a")) (aCons (mC (D.str "")) aNil))) (aCons (mTup (aCons (mC (D.str "a\n")) aNil)) aNil))))))))))) st11))))))))) := rfl
theorem law_true (ns : List Int) (h63 : ns.length ≤ 63) : ∃ μ, Φ 60 .f_law [.fro (ns.map .int)] [] = .ok (.bl true) μ := by
  rw [ph_law, run_is, law_is]
  have e0 : startD 14 [D.fro (ns.map .int)] = [some (.fro (ns.map .int)), none, none, none, none, none, none, none, none, none, none, none, none, none] := rfl
  rw [e0]
  -- the tape
  have t0 : TapeJ ns (tq (ns.map .int) 0 0 1 []) := ⟨0, 0, 1, [], Int.le_refl _, rfl⟩
  have c1 : st1 [some (.fro (ns.map .int)), none, none, none, none, none, none, none, none, none, none, none, none, none] [] = .nx [some (.fro (ns.map .int)), some (.ptr 0), none, none, none, none, none, none, none, none, none, none, none, none] (tq (ns.map .int) 0 0 1 []) := by
    have ls0 : fList [.fro (ns.map .int)] [] = .ok (.lst (ns.map .int)) [] := rfl
    have mem0 : ([] : Mem) ++ [Cell.lst [.lst (ns.map D.int), .int 0, .int 0, .int 1]] = tq (ns.map .int) 0 0 1 [] := rfl
    simp [st1, ls0, retOk, ints_noL, noL, mem0]
  rw [x_seq, c1, y_nx]
  -- the expression
  obtain ⟨e, μ1, q1, dr, t1⟩ := drawn_ok 4 53 _ t0
  have q1 : Φ 59 .f__law_drawn [.ptr 0, .int 4] (tq (ns.map .int) 0 0 1 []) = .ok (exD e) μ1 := q1
  obtain ⟨g1, g2, g3, g4⟩ := Dr.ok 4 e dr
  have tlen : (txt e).length ≤ 380 := by
    -- three items at most: better than by fours
    have := Dr.len 4 e dr
    omega
  have tx := text_ok 4 e 54 μ1 g2 (by omega)
  have tx2 : Φ 59 .f__law_text [exD e] μ1 = .ok (.str (S (txt e))) μ1 := tx.2
  rw [x_seq, x_set]
  simp only [x_fn, x_cons, x_var, List.getElem?_cons_succ, List.getElem?_cons_zero, R.bind_ok, xk_cons1, x_c, x_nil, xk_cons2, xk_fn, List.length_cons, List.length_nil, Nat.reduceAdd, if_true, List.append_nil, q1, lift_ok, xk_set, List.isEmpty_nil, Bool.true_or, y_nx, List.set_cons_succ, List.set_cons_zero]
  rw [x_seq, x_set]
  simp only [x_fn, x_cons, x_var, List.getElem?_cons_succ, List.getElem?_cons_zero, R.bind_ok, xk_cons1, x_c, x_nil, xk_cons2, xk_fn, List.length_cons, List.length_nil, Nat.reduceAdd, if_true, List.append_nil, tx2, lift_ok, xk_set, List.isEmpty_nil, Bool.true_or, y_nx, List.set_cons_succ, List.set_cons_zero]
  have ht : noTab (txt e) := noTab_txt e g1
  -- blanks put in
  obtain ⟨ps, μ2, lo, t2, hp⟩ := loose_ok t1 (txt e) (by omega) [some (.fro (ns.map .int)), some (.ptr 0), some (exD e), some (.str (S (txt e))), none, none, none, none, none, none, none, none, none, none] rfl rfl rfl
  obtain ⟨f1, f2, f3, f4⟩ := loose_facts (txt e) ps hp
  rw [x_seq, x_set, lo]
  simp only [lift_ok, xk_set, List.isEmpty_nil, Bool.true_or, if_true, y_nx, List.set_cons_succ, List.set_cons_zero]
  -- read back
  have tkp : tk [] ps.flatten = et e := by rw [tk_loose _ _ hp, tk_whole e g1]
  have md : MD [[]] (et e) = some e := by
    have m := mx_et e 0 [] g1
    have m0 : mx 0 ([] : List Wd) = 0 := rfl
    rw [List.append_nil, m0] at m
    rw [MD_M _ _ (by simp) (by simp; omega), M_self e g1]
  have tl1 := tk_len (txt e) []
  have tl2 := tk_len ps.flatten []
  obtain ⟨μ3, r1, p1⟩ := read_ok 56 (txt e) μ2 (by omega) ht (by omega)
  rw [tk_whole e g1, md] at r1
  obtain ⟨μ4, r2, p2⟩ := read_ok 56 ps.flatten μ3 (by omega) (f2 ht) (by omega)
  rw [tkp, md] at r2
  have r3 := tokens_ok 57 ps.flatten μ4 (by omega) (f2 ht)
  have r5 := ltok_ok 58 ps.flatten μ4 (by omega)
  rw [tkp] at r3 r5
  have r4 := is_ok 4 e 1 54 μ4 g1 (by omega) g2 (by decide)
  have st := (text_ok 4 e 54 μ2 g2 (by omega)).1
  have nx : nice (exD e) = true := nice_ex (n := 3) (by decide) e g4
  have nw : ∀ ws : List Wd, nices (strsW ws) = true ∧ deps (strsW ws) = 0 := fun ws => by
    induction ws with
    | nil => exact ⟨rfl, rfl⟩
    | cons a ws ih => exact ⟨by simp [strsW, nices, nice]; exact ih.1, by simp [strsW, deps, dep]; exact ih.2⟩
  have etl : (et e).length ≤ 10000000 := by rw [← tk_whole e g1]; omega
  have sm1 : Φ 59 .f__law_same [.lst [.str (S (txt e)), exD e, exD e, .lst (strsW (et e)), .bl true], .lst [.str (S (txt e)), exD e, exD e, .lst (strsW (et e)), .bl true]] μ4 = .ok (.bl true) μ4 := by
    refine same_phi 58 _ μ4 ?_ ?_
    · have l1 : (strsW (et e)).length ≤ 10000000 := by simpa [strsW] using etl
      simp [nice, nices, nx, (nw (et e)).1, l1]
    · simp [dep, deps, dep_ex, (nw (et e)).2]
      omega
  have c5 : st5 [some (.fro (ns.map .int)), some (.ptr 0), some (exD e), some (.str (S (txt e))), some (.str (S ps.flatten)), none, none, none, none, none, none, none, none, none] μ2 = .nx [some (.fro (ns.map .int)), some (.ptr 0), some (exD e), some (.str (S (txt e))), some (.str (S ps.flatten)), none, none, none, none, none, none, none, none, none] μ4 := by
    have st : Φ 59 .f_sexpr_text [exD e] μ2 = .ok (.str (S (txt e))) μ2 := st
    have r1 : Φ 59 .f_read_sexpr [.str (S (txt e))] μ2 = .ok (exD e) μ3 := r1
    have r2 : Φ 59 .f_read_sexpr [.str (S ps.flatten)] μ3 = .ok (exD e) μ4 := r2
    have r3 : Φ 59 .f_sexpr_tokens [.str (S ps.flatten)] μ4 = .ok (.lst (strsW (et e))) μ4 := r3
    have r4 : Φ 59 .f_is_sexpr [exD e, .int 1] μ4 = .ok (.bl true) μ4 := r4
    have r5 : Φ 59 .f__law_tokens [.str (S ps.flatten)] μ4 = .ok (.lst (strsW (et e))) μ4 := r5
    simp [st5, st, r1, r2, r3, r4, r5, sm1]
  rw [x_seq, c5, y_nx]
  have t4 := (t2.pre p1).pre p2
  -- bent texts
  have mcT : mc 0 (txt e) ≤ 4 := by
    rw [← mx_tk (txt e) [] 0 (fun _ z => nomatch z), tk_whole e g1]
    have m := mx_et e 0 [] g1
    have m0 : mx 0 ([] : List Wd) = 0 := rfl
    rw [List.append_nil, m0] at m
    omega
  obtain ⟨η', μ5, lp, hp5⟩ := for_inv (g := .nm 5) (body := bentB) (fun _ η μ => TapeJ ns μ ∧ ∃ o5 o8 o11 o12, η = [some (.fro (ns.map .int)), some (.ptr 0), some (exD e), some (.str (S (txt e))), some (.str (S ps.flatten)), o5, none, none, o8, none, none, o11, o12, none])
    ((List.range 4).map fun i => D.int (0 + (i : Nat))) [] [some (.fro (ns.map .int)), some (.ptr 0), some (exD e), some (.str (S (txt e))), some (.str (S ps.flatten)), none, none, none, none, none, none, none, none, none] μ4 ⟨t4, none, none, none, none, rfl⟩
    (fun dn x rest he η μ hP => by
      obtain ⟨hμ, o5, o8, o11, o12, rfl⟩ := hP
      obtain ⟨μ', p8, p11, p12, b1, b2⟩ := bent_ok hμ (T := txt e) (by omega) ht mcT (.fro (ns.map .int)) (exD e) (.str (S ps.flatten)) x (some x) o8 o11 o12
      exact ⟨_, _, μ', rfl, b1, b2, some x, p8, p11, p12, rfl⟩)
  obtain ⟨t5, o5, o8, o11, o12, rfl⟩ := hp5
  have rg4 : ∀ μ, kRng1 [.int 4] μ = .ok ((List.range 4).map fun i => D.int (0 + (i : Nat))) μ := fun μ => rng1_nat (n := 4) (by decide) μ
  have c6 : ∀ η, sFor [] (.nm 5) (iRange1 (aCons (mC (D.int 4)) aNil)) bentB η μ4 = forLoop (.nm 5) bentB ((List.range 4).map fun i => D.int (0 + (i : Nat))) η μ4 := fun η => by
    simp only [x_for, x_rng1, x_cons, x_c, R.bind_ok, xk_cons1, x_nil, xk_cons2, rg4, lift_ok, xk_for]
    rfl
  rw [x_seq, c6, lp, y_nx]
  -- many brackets
  obtain ⟨v, μ6, q6, l6, t6⟩ := next_J t5 58 (many := 8) (by decide) (by decide)
  have q6 : Φ 59 .f__law_next [.ptr 0, .int 8] μ5 = .ok (.int v) μ6 := q6
  rw [x_seq]
  have c7 : sPar [] 9 10 (mC (D.str "a")) (mOp fAdd (mC (D.int 15)) (mFn (Φ 59 .f__law_next) 2 [] (aCons (mVar 1) (aCons (mC (D.int 8)) aNil)))) [some (.fro (ns.map .int)), some (.ptr 0), some (exD e), some (.str (S (txt e))), some (.str (S ps.flatten)), o5, none, none, o8, none, none, o11, o12, none] μ5 =
      .nx [some (.fro (ns.map .int)), some (.ptr 0), some (exD e), some (.str (S (txt e))), some (.str (S ps.flatten)), o5, none, none, o8, some (exD (nest 0)), some (.int ((15 + v : Nat))), o11, o12, none] μ6 := by
    have za : ("a" : Str) = S [97] := by decide +kernel
    have ei : (15 : Int) + (v : Nat) = ((15 + v : Nat) : Int) := by omega
    simp [-Int.natCast_add, q6, ei, za, nest, exD]
  rw [c7, y_nx, x_seq]
  obtain ⟨η', μ7, lp7, hp7⟩ := for_inv (g := .nm 6) (body := sSet [] 9 (mTup (aCons (mVar 9) aNil))) (fun dn η μ => μ = μ6 ∧ ∃ o6, η = [some (.fro (ns.map .int)), some (.ptr 0), some (exD e), some (.str (S (txt e))), some (.str (S ps.flatten)), o5, o6, none, o8, some (exD (nest dn.length)), some (.int ((15 + v : Nat))), o11, o12, none])
    ((List.range (15 + v)).map fun i => D.int (0 + (i : Nat))) [] [some (.fro (ns.map .int)), some (.ptr 0), some (exD e), some (.str (S (txt e))), some (.str (S ps.flatten)), o5, none, none, o8, some (exD (nest 0)), some (.int ((15 + v : Nat))), o11, o12, none] μ6 ⟨rfl, none, rfl⟩
    (fun dn x rest he η μ hP => by
      obtain ⟨rfl, o6, rfl⟩ := hP
      refine ⟨_, _, _, rfl, ?_, rfl, some x, rfl⟩
      simp [nest, exD, exDs])
  obtain ⟨rfl, o6, rfl⟩ := hp7
  simp only [List.nil_append, List.length_map, List.length_range] at lp7
  have rg7 := rng1_nat (n := 15 + v) (by omega) μ7
  have c8 : sFor [] (.nm 6) (iRange1 (aCons (mVar 10) aNil)) (sSet [] 9 (mTup (aCons (mVar 9) aNil))) [some (.fro (ns.map .int)), some (.ptr 0), some (exD e), some (.str (S (txt e))), some (.str (S ps.flatten)), o5, none, none, o8, some (exD (nest 0)), some (.int ((15 + v : Nat))), o11, o12, none] μ7 = forLoop (.nm 6) (sSet [] 9 (mTup (aCons (mVar 9) aNil))) ((List.range (15 + v)).map fun i => D.int (0 + (i : Nat))) [some (.fro (ns.map .int)), some (.ptr 0), some (exD e), some (.str (S (txt e))), some (.str (S ps.flatten)), o5, none, none, o8, some (exD (nest 0)), some (.int ((15 + v : Nat))), o11, o12, none] μ7 := by
    simp only [x_for, x_rng1, x_cons, x_var, List.getElem?_cons_succ, List.getElem?_cons_zero, R.bind_ok, xk_cons1, x_nil, xk_cons2, rg7, lift_ok, xk_for]
    rfl
  rw [c8, lp7, y_nx, x_seq]
  obtain ⟨n1, n2, n3, n4, n5, _⟩ := nest_facts (15 + v)
  have i1 := nest_is (15 + v) 1 (58 - (15 + v)) μ7 (by decide)
  rw [show 58 - (15 + v) + (15 + v) + 1 = 59 by omega] at i1
  have i2 := (text_ok (15 + v) (nest (15 + v)) (58 - (15 + v)) μ7 (by omega) (by omega)).2
  rw [show 58 - (15 + v) + (15 + v) + 1 = 59 by omega] at i2
  have tln := tk_len (txt (nest (15 + v))) []
  obtain ⟨μ8, r8, p8⟩ := read_ok 56 (txt (nest (15 + v))) μ7 (by omega) n4 (by omega)
  rw [MD_nest] at r8
  have i3 := nest_deep (15 + v) (58 - (15 + v)) μ8
  rw [show 58 - (15 + v) + (15 + v) + 1 = 59 by omega] at i3
  have bq : decide (1 + (15 + v) ≤ 20) = decide (15 + v ≤ 19) := decide_eq_decide.mpr ⟨fun h => by omega, fun h => by omega⟩
  rw [bq] at i1
  have sm2 : ∀ (b : Bool) (o : Option Ex), (o = none ∨ o = some (nest (15 + v))) → Φ 59 .f__law_same [.lst [.bl b, oD o], .lst [.bl b, oD o]] μ8 = .ok (.bl true) μ8 := fun b o ho => by
    refine same_phi 58 _ μ8 ?_ ?_
    · rcases ho with rfl | rfl
      · simp [nice, nices, oD]
      · simp [nice, nices, oD, nice_ex (n := 1) (by decide) _ n5]
    · rcases ho with rfl | rfl
      · simp [dep, deps, oD]
      · simp [dep, deps, oD, dep_ex, n2]
        omega
  have c9 : ∀ oo, st9 [some (.fro (ns.map .int)), some (.ptr 0), some (exD e), some (.str (S (txt e))), some (.str (S ps.flatten)), o5, oo, none, o8, some (exD (nest (15 + v))), some (.int ((15 + v : Nat))), o11, o12, none] μ7 = .nx [some (.fro (ns.map .int)), some (.ptr 0), some (exD e), some (.str (S (txt e))), some (.str (S ps.flatten)), o5, oo, none, o8, some (exD (nest (15 + v))), some (.int ((15 + v : Nat))), o11, o12, none] μ8 := fun oo => by
    have i1 : Φ 59 .f_is_sexpr [exD (nest (15 + v)), .int 1] μ7 = .ok (.bl (decide (15 + v ≤ 19))) μ7 := i1
    have ne : fNe (.int ((15 + v + 1 : Nat))) (.int (((15 + v : Nat) : Int) + 1)) μ8 = .ok (.bl false) μ8 := by
      rw [ne_int, decide_eq_true (by omega)]; rfl
    have le : ∀ μ, fLe (.int ((15 + v : Nat))) (.int 19) μ = .ok (.bl (decide (15 + v ≤ 19))) μ := fun μ => by
      have e : decide (((15 + v : Nat) : Int) ≤ 19) = decide (15 + v ≤ 19) := decide_eq_decide.mpr ⟨fun h => by omega, fun h => by omega⟩
      rw [le_int, e]
    by_cases hk : 15 + v ≤ 19
    · rw [if_pos hk] at r8
      have dk : decide (15 + v ≤ 19) = true := decide_eq_true hk
      rw [dk] at i1 le
      have sm := sm2 true (some (nest (15 + v))) (.inr rfl)
      have r8 : Φ 59 .f_read_sexpr [.str (S (txt (nest (15 + v))))] μ7 = .ok (exD (nest (15 + v))) μ8 := r8
      have sm : Φ 59 .f__law_same [.lst [.bl true, exD (nest (15 + v))], .lst [.bl true, exD (nest (15 + v))]] μ8 = .ok (.bl true) μ8 := sm
      generalize ((15 + v + 1 : Nat) : Int) = yy at i3 ne
      generalize (15 + v) = kk at i1 i2 r8 i3 ne le sm
      generalize ((kk : Nat) : Int) = zz at ne le
      generalize exD (nest kk) = dd at i1 i2 r8 i3 sm
      simp [-le_int, -ne_int, st9, i1, i2, r8, le, sm, i3, ne]
    · rw [if_neg hk] at r8
      have dk : decide (15 + v ≤ 19) = false := decide_eq_false hk
      rw [dk] at i1 le
      have sm := sm2 false none (.inl rfl)
      have r8 : Φ 59 .f_read_sexpr [.str (S (txt (nest (15 + v))))] μ7 = .ok .non μ8 := r8
      have sm : Φ 59 .f__law_same [.lst [.bl false, .non], .lst [.bl false, .non]] μ8 = .ok (.bl true) μ8 := sm
      generalize ((15 + v + 1 : Nat) : Int) = yy at i3 ne
      generalize (15 + v) = kk at i1 i2 r8 i3 ne le
      generalize ((kk : Nat) : Int) = zz at ne le
      generalize exD (nest kk) = dd at i1 i2 r8 i3
      simp [-le_int, -ne_int, st9, i1, i2, r8, le, sm, i3, ne]
  rw [c9, y_nx, x_seq]
  have t8 := t6.pre p8
  -- odd values
  have c10 : ∀ oo : Option D, sSet [] 7 (mLst (aCons (mC (D.str "")) (aCons (mC (D.str "a b")) (aCons (mC (D.str "(")) (aCons (mLst (aCons (mC (D.str "a")) aNil)) (aCons (mTup (aCons (mC (D.str "a")) (aCons (mC (D.non)) aNil))) (aCons (mC (D.int 1)) (aCons (mC (D.non)) (aCons (mTup (aCons (mC (D.str "a")) (aCons (mC (D.str "")) aNil))) (aCons (mTup (aCons (mC (D.str "a\n")) aNil)) aNil)))))))))) [some (.fro (ns.map .int)), some (.ptr 0), some (exD e), some (.str (S (txt e))), some (.str (S ps.flatten)), o5, oo, none, o8, some (exD (nest (15 + v))), some (.int ((15 + v : Nat))), o11, o12, none] μ8 =
      .nx [some (.fro (ns.map .int)), some (.ptr 0), some (exD e), some (.str (S (txt e))), some (.str (S ps.flatten)), o5, oo, some (.lst odds), o8, some (exD (nest (15 + v))), some (.int ((15 + v : Nat))), o11, o12, none] μ8 := fun oo => rfl
  rw [c10, y_nx]
  have lcA : ∀ oo : Option D, lcLoop (.nm 13) bTrue (mFn (Φ 59 .f_is_sexpr) 2 [D.int 1] (aCons (mVar 13) aNil)) [some (.fro (ns.map .int)), some (.ptr 0), some (exD e), some (.str (S (txt e))), some (.str (S ps.flatten)), o5, oo, some (.lst odds), o8, some (exD (nest (15 + v))), some (.int ((15 + v : Nat))), o11, o12, none] odds [] μ8 = .ok (.lst (odds.map fun _ => .bl false)) μ8 := fun oo => by
    refine lc_map (fun _ => .bl false) odds [] (by decide) fun x hx => ⟨_, rfl, ?_⟩
    have := odd_is μ8 x hx
    simp [this]
  have lcB : ∀ oo : Option D, ∃ μ9, lcLoop (.nm 13) bTrue (mFn (Φ 59 .f_read_sexpr) 1 [] (aCons (mVar 13) aNil)) [some (.fro (ns.map .int)), some (.ptr 0), some (exD e), some (.str (S (txt e))), some (.str (S ps.flatten)), o5, oo, some (.lst odds), o8, some (exD (nest (15 + v))), some (.int ((15 + v : Nat))), o11, o12, none] texts [] μ8 = .ok (.lst [.non, .non, .non, .non]) μ9 := fun oo => by
    obtain ⟨es, μ9, k1, k2, k3⟩ := lc_inv (g := .nm 13) (elt := mFn (Φ 59 .f_read_sexpr) 1 [] (aCons (mVar 13) aNil)) (η := [some (.fro (ns.map .int)), some (.ptr 0), some (exD e), some (.str (S (txt e))), some (.str (S ps.flatten)), o5, oo, some (.lst odds), o8, some (exD (nest (15 + v))), some (.int ((15 + v : Nat))), o11, o12, none]) (fun _ => True) (fun _ d => d = .non) texts [] μ8 (by decide) trivial (fun x hx μ _ => by
      obtain ⟨μ', e1, _⟩ := text_no μ x hx
      exact ⟨_, _, μ', rfl, by simp [e1], trivial, rfl⟩)
    refine ⟨μ9, ?_⟩
    rw [k1]
    have l4 := k3.len
    have all := fun b hb => All2.right (Q := fun d : D => d = D.non) (fun _ _ h => h) k3 b hb
    match es, l4, all with
    | [a, b, c, d], _, all =>
      rw [all a (by simp), all b (by simp), all c (by simp), all d (by simp)]
      rfl
  obtain ⟨μ9, lcB⟩ := lcB o6
  have sm3 : Φ 59 .f__law_same [.lst [.lst (odds.map fun _ => .bl false), .lst [.non, .non, .non, .non], .int 20], .lst [.lst (odds.map fun _ => .bl false), .lst [.non, .non, .non, .non], .int 20]] μ9 = .ok (.bl true) μ9 := same_phi 58 _ _ (by decide) (by decide)
  have md9 : ∀ μ, fMulA (.lst [.bl false]) (.int 9) μ = .ok (.lst (odds.map fun _ => .bl false)) μ := fun μ => rfl
  have md4 : ∀ μ, fMulA (.lst [.non]) (.int 4) μ = .ok (.lst [.non, .non, .non, .non]) μ := fun μ => rfl
  refine ⟨μ9, ?_⟩
  have tt : ([.str "", .str ")", .str "a b", .str "() ()"] : List D) = texts := rfl
  have tl4 : texts.length = 4 := rfl
  have lcA := lcA o6
  generalize (15 + v) = kk at lcA lcB
  generalize ((kk : Nat) : Int) = zz at lcA lcB
  simp [-Int.natCast_add, st11, FP.xk_of, itemsD, wipeD, lcA, tt, tl4, lcB, md9, md4, sm3, retOk, noL]
end Law
end FP
open PySem PySem.W PyProof.Rows
set_option maxRecDepth 100000 in
set_option maxHeartbeats 0 in
theorem PySem.Challenge.cw_onetongue_k01_whole_expressions_in_brack_holds : PySem.Challenge.rw_onetongue_k01_whole_expressions_in_brack.Holds := by
  w_on; o_law; k_head; (case hw => w_witness2)
  k_fill
  refine FP.walkL (l := PySem.Challenge.rw_onetongue_k01_whole_expressions_in_brack) (k := 60) rfl rfl ⟨rfl, by decide, by decide⟩ (fun w h Y => PySem.W.kIn_of Y) ?F
  case F =>
    intro w mg fa h KX G hmg
    let ce : Str → Addr := fun _ => 0
    suffices hs : ∃ (ad : FP.Law.Fn → Addr) (fd : FP.Law.Fn → FuncData), FP.Law.Tab _ w _ mg ad fd ce ∧ ad .f_law = fa ∧ ∀ (s : Shared) (u : Value), BindsTo s (fd .f_law) ⟨[u], []⟩ [("script", u)] by
      obtain ⟨ad, fd, T, e, hb⟩ := hs
      subst e
      exact ⟨fd .f_law, hb, fun base _ _ => FP.Law.law_ok T FP.Law.law_true⟩
    refine' FP.Law.tab_mk KX G hmg ?a1 ?l1 ?c1 ?k1 ?a2 ?l2 ?c2 ?k2 ?a3 ?l3 ?c3 ?k3 ?a4 ?l4 ?c4 ?k4 ?a5 ?l5 ?c5 ?k5 ?t5 ?a6 ?l6 ?c6 ?k6 ?a7 ?l7 ?c7 ?k7 ?a8 ?l8 ?c8 ?k8 ?a9 ?l9 ?c9 ?k9 ?a10 ?l10 ?c10 ?k10 ?a11 ?l11 ?c11 ?k11 ?a12 ?l12 ?c12 ?k12 ?a13 ?l13 ?c13 ?k13 ?a14 ?l14 ?c14 ?k14 ?z1 ?z2 ?z3 ?z4 ?z5 ?z6 ?z7 ?z8 ?z9 ?z10 ?z11 ?z12 ?g1
    (case a1 => k_is)
    (case l1 => k_is)
    (case c1 => k_is)
    (case k1 => k_is)
    (case a2 => k_is)
    (case l2 => k_is)
    (case c2 => k_is)
    (case k2 => k_is)
    (case a3 => k_is)
    (case l3 => k_is)
    (case c3 => k_is)
    (case k3 => k_is)
    (case a4 => k_is)
    (case l4 => k_is)
    (case c4 => k_is)
    (case k4 => k_is)
    (case a5 => k_is)
    (case l5 => k_is)
    (case c5 => k_is)
    (case k5 => k_is)
    (case t5 => k_is)
    (case a6 => k_is)
    (case l6 => k_is)
    (case c6 => k_is)
    (case k6 => k_is)
    (case a7 => k_is)
    (case l7 => k_is)
    (case c7 => k_is)
    (case k7 => k_is)
    (case a8 => k_is)
    (case l8 => k_is)
    (case c8 => k_is)
    (case k8 => k_is)
    (case a9 => k_is)
    (case l9 => k_is)
    (case c9 => k_is)
    (case k9 => k_is)
    (case a10 => k_is)
    (case l10 => k_is)
    (case c10 => k_is)
    (case k10 => k_is)
    (case a11 => k_is)
    (case l11 => k_is)
    (case c11 => k_is)
    (case k11 => k_is)
    (case a12 => k_is)
    (case l12 => k_is)
    (case c12 => k_is)
    (case k12 => k_is)
    (case a13 => k_is)
    (case l13 => k_is)
    (case c13 => k_is)
    (case k13 => k_is)
    (case a14 => k_is)
    (case l14 => k_is)
    (case c14 => k_is)
    (case k14 => k_is)
    (case z1 => k_is)
    (case z2 => k_is)
    (case z3 => k_is)
    (case z4 => k_is)
    (case z5 => k_is)
    (case z6 => k_is)
    (case z7 => k_is)
    (case z8 => k_is)
    (case z9 => k_is)
    (case z10 => k_is)
    (case z11 => k_is)
    (case z12 => k_is)
    (case g1 => k_is)
#print axioms PySem.Challenge.cw_onetongue_k01_whole_expressions_in_brack_holds
