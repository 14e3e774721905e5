import PyProof.Rows.All
import Wide.All
import OpenK.AllK
import Wide.FinOn
import HandS.ForMost
import HandS.Exc
import HandS.ExcOwn
import HandS.TryOnly
import HandS.Flow
import HandS.TupAny
import HandS.IsInst
import HandS.CallSlots
import HandS.WordsExc
import HandS.Conv
import KE.KDictPairs
import KE.KDictList
import HandS.Text
import HandS.StrMore
import HandS.Defaults
import PySem.Challenge.RW_onetongue_k04_whole_kinds
set_option Elab.async false
set_option linter.all false
set_option maxRecDepth 100000
set_option maxHeartbeats 4000000
/-! Core1: plain data D, cells, what stands for what; readings that come from plain functions of data. -/
namespace FP
open PySem PySem.Spec L2
open PyProof.Rows hiding St

/-- plain data; ptr k is the k-th cell (a thing that changes) -/
inductive D where
  | non | bl (b : Bool) | int (i : Int) | str (s : Str) | tup (l : List D) | lst (l : List D) | fro (l : List D) | ptu (l : List D) | dic (ks : List Key) (l : List D) | ptr (k : Nat)
inductive Cell where
  | lst (l : List D)
  | dic (ks : List Key) (l : List D)
  | ins (c : Str) (fs : List Str) (l : List D)
abbrev Mem := List Cell
abbrev Env' := List (Option D)
/-- an exception: its class and its fields -/
structure Exn where
  cls : Str
  fs : List Str
  vs : List D
inductive R (α : Type) where
  | ok (a : α) (μ : Mem)
  | exc (x : Exn) (μ : Mem)
  | stuck
def R.bind {α β : Type} : R α → (α → Mem → R β) → R β
  | .ok a μ, f => f a μ
  | .exc x μ, _ => .exc x μ
  | .stuck, _ => .stuck
@[simp] theorem R.bind_ok {α β : Type} (a : α) (μ : Mem) (f : α → Mem → R β) : (R.ok a μ).bind f = f a μ := (Eq.refl _).trans (Eq.refl _)
@[simp] theorem R.bind_exc {α β : Type} (x : Exn) (μ : Mem) (f : α → Mem → R β) : (R.exc x μ).bind f = .exc x μ := (Eq.refl _).trans (Eq.refl _)
@[simp] theorem R.bind_stuck {α β : Type} (f : α → Mem → R β) : (R.stuck : R α).bind f = .stuck := (Eq.refl _).trans (Eq.refl _)
inductive RS where
  | nx (η : Env') (μ : Mem)
  | rt (d : D) (μ : Mem)
  | bk (η : Env') (μ : Mem)
  | ct (η : Env') (μ : Mem)
  | exc (x : Exn) (η : Env') (μ : Mem)
  | stuck

/-- a list that nobody changes: frozen, or an object of the module -/
def FzL (K : PySem.W.Frag) (H : Hp) (a : Addr) (xs : List V) : Prop :=
  (∃ o, H a = some (.frz o (.lst xs))) ∨
    ∃ (o : Obj) (its : Array Value) (n : Nat), K.lookup a = some o ∧ o.cls = .type "list" ∧ o.dict = none ∧ o.data = .seq its n ∧ its.size ≤ sizeLine ∧ Vals xs its.toList
theorem FzL.seq {K : PySem.W.Frag} {H : Hp} {a : Addr} {xs : List V} (h : FzL K H a xs) : SqL K H a xs := h.imp (fun z => .inr z) id
section
variable (K : PySem.W.Frag) (φ ψ : List Addr) (H : Hp)
mutual
/-- a value stands for data: φ the cells, ψ other addresses that no inner list has -/
def Rp : D → V → Prop
  | .non, v => v = .non
  | .bl b, v => v = .bl b
  | .int i, v => v = .int i
  | .str s, v => v = .str s
  | .tup ds, v => ∃ a xs, v = .ref a ∧ SqT K H a xs ∧ RpL ds xs
  | .lst ds, v => ∃ a xs, v = .ref a ∧ (a ∉ φ ∧ a ∉ ψ) ∧ H a = some (.lst xs) ∧ RpL ds xs
  | .fro ds, v => ∃ a xs, v = .ref a ∧ FzL K H a xs ∧ RpL ds xs
  | .ptu ds, v => ∃ a xs, v = .ref a ∧ (∃ o, H a = some (.frz o (.tup xs)) ∧ o.dict = none) ∧ RpL ds xs
  | .dic ks ds, v => ∃ a xs, v = .ref a ∧ (a ∉ φ ∧ a ∉ ψ) ∧ H a = some (.dK (ks.zip xs)) ∧ ks.length = ds.length ∧ RpL ds xs
  | .ptr k, v => ∃ a, φ[k]? = some a ∧ v = .ref a
def RpL : List D → List V → Prop
  | [], xs => xs = []
  | d :: ds, xs => ∃ x r, xs = x :: r ∧ Rp d x ∧ RpL ds r
end
end

/-- the heap grew: A may change, A' may change then -/
structure Gr (A : List Addr) (H : Hp) (A' : List Addr) (H' : Hp) : Prop where
  pre : ∀ a ∈ A', a ∈ A ∨ H a = none
  keep : ∀ a o, (a ∈ A → ¬ Mut (some o)) → H a = some o → H' a = some o
  there : ∀ a o, H a = some o → ∃ o', H' a = some o'
theorem Gr.refl {A : List Addr} {H : Hp} : Gr A H A H := ⟨fun _ h => .inl h, fun _ _ _ h => h, fun _ o h => ⟨o, h⟩⟩
theorem Gr.trans {A A1 A2 : List Addr} {H H1 H2 : Hp} (g : Gr A H A1 H1) (h : Gr A1 H1 A2 H2) : Gr A H A2 H2 := by
  refine ⟨fun a ha => ?_, fun a o hm e => ?_, fun a o e => ?_⟩
  · rcases h.pre a ha with q | q
    · exact g.pre a q
    · refine .inr ?_
      cases e : H a with
      | none => rfl
      | some o =>
        obtain ⟨o', e'⟩ := g.there a o e
        rw [q] at e'; cases e'
  · refine h.keep a o (fun ha => ?_) (g.keep a o hm e)
    rcases g.pre a ha with q | q
    · exact hm q
    · rw [q] at e; cases e
  · obtain ⟨o', e'⟩ := g.there a o e
    exact h.there a o' e'
theorem Gr.tup {A A' : List Addr} {H H' : Hp} (g : Gr A H A' H') {K : PySem.W.Frag} {a : Addr} {xs : List V} (h : SqT K H a xs) : SqT K H' a xs := by
  rcases h with (h | ⟨o, h⟩) | h
  · exact .inl (.inl (g.keep a _ (fun _ z => z) h))
  · exact .inl (.inr ⟨o, g.keep a _ (fun _ z => z) h⟩)
  · exact .inr h
theorem Gr.fz {A A' : List Addr} {H H' : Hp} (g : Gr A H A' H') {K : PySem.W.Frag} {a : Addr} {xs : List V} (h : FzL K H a xs) : FzL K H' a xs := by
  rcases h with ⟨o, h⟩ | h
  · exact .inl ⟨o, g.keep a _ (fun _ z => z) h⟩
  · exact .inr h
theorem Gr.rd {A A' : List Addr} {H H' : Hp} (g : Gr A H A' H') {a : Addr} {u : HO} (n : a ∉ A) (h : Rd H a u) : Rd H' a u := by
  rcases h with h | ⟨o, h⟩
  · exact .inl (g.keep a _ (fun z => absurd z n) h)
  · exact .inr ⟨o, g.keep a _ (fun z => absurd z n) h⟩
theorem rd_some {H : Hp} {a : Addr} {u : HO} (h : Rd H a u) : ∃ o, H a = some o := by
  rcases h with h | ⟨o, h⟩ <;> exact ⟨_, h⟩
theorem Gr.not_mem {A A' : List Addr} {H H' : Hp} (g : Gr A H A' H') {a : Addr} {o : HO} (n : a ∉ A) (h : H a = some o) : a ∉ A' := fun z => by
  rcases g.pre a z with q | q
  · exact n q
  · rw [q] at h; cases h
/-- nothing tracked changes: a new object -/
theorem Gr.new {A : List Addr} {H : Hp} {p : Addr} {o : HO} (h : H p = none) : Gr A H A (upd H p o) := by
  refine ⟨fun _ h => .inl h, fun a u _ e => ?_, fun a u e => ⟨u, ?_⟩⟩ <;> (rw [upd_ne (ne_of_none e h)]; exact e)
/-- a new object that may change -/
theorem Gr.newC {A : List Addr} {H : Hp} {p : Addr} {o : HO} (h : H p = none) : Gr A H (A ++ [p]) (upd H p o) := by
  refine ⟨fun a ha => ?_, fun a u _ e => ?_, fun a u e => ⟨u, ?_⟩⟩
  · rcases List.mem_append.mp ha with q | q
    · exact .inl q
    · have e : a = p := by simpa using q
      exact .inr (e ▸ h)
  all_goals (rw [upd_ne (ne_of_none e h)]; exact e)
/-- what may change changes -/
theorem Gr.mut {A : List Addr} {H : Hp} {p : Addr} {o u : HO} (hp : p ∈ A) (h : H p = some o) (m : Mut (some o)) : Gr A H A (upd H p u) := by
  refine ⟨fun _ h => .inl h, fun a v hm e => ?_, fun a v e => ?_⟩
  · by_cases q : a = p
    · subst q
      rw [h] at e; cases e
      exact absurd m (hm hp)
    · rw [upd_ne q]; exact e
  · by_cases q : a = p
    · subst q; exact ⟨u, upd_same⟩
    · exact ⟨v, by rw [upd_ne q]; exact e⟩
theorem Gr.sub {A B A' : List Addr} {H H' : Hp} (g : Gr A H A' H') (h : ∀ a ∈ A, a ∈ B) : Gr B H A' H' :=
  ⟨fun a z => (g.pre a z).imp_left (h a), fun a o hm e => g.keep a o (fun z => hm (h a z)) e, g.there⟩
theorem Gr.sub' {A B A' : List Addr} {H H' : Hp} (g : Gr A H A' H') (h : ∀ a ∈ B, a ∈ A') : Gr A H B H' :=
  ⟨fun a z => g.pre a (h a z), g.keep, g.there⟩
theorem Gr.weak {A B B' A' : List Addr} {H H' : Hp} (g : Gr A H A' H') (h : ∀ a ∈ A, a ∈ B) (h' : ∀ a ∈ B', a ∈ A') : Gr B H B' H' := (g.sub h).sub' h'

section
variable {K : PySem.W.Frag} {φ ψ φ' ψ' A A' : List Addr} {H H' : Hp}
mutual
theorem Rp.mono (g : Gr A H A' H') (hA : ∀ a, a ∉ φ → a ∉ ψ → a ∉ A) (hA' : ∀ a, a ∈ φ' ∨ a ∈ ψ' → (a ∈ φ ∨ a ∈ ψ) ∨ H a = none) (hp : ∀ (k : Nat) (a : Addr), φ[k]? = some a → φ'[k]? = some a) :
    ∀ {d : D} {v : V}, Rp K φ ψ H d v → Rp K φ' ψ' H' d v
  | .non, _, h => h
  | .bl _, _, h => h
  | .int _, _, h => h
  | .str _, _, h => h
  | .tup ds, _, h => by
    obtain ⟨a, xs, e, h, r⟩ := h
    exact ⟨a, xs, e, g.tup h, RpL.mono g hA hA' hp r⟩
  | .lst ds, _, h => by
    obtain ⟨a, xs, e, ⟨n1, n2⟩, h, r⟩ := h
    have nn : a ∉ A := hA a n1 n2
    refine ⟨a, xs, e, ?_, g.keep a _ (fun z => absurd z nn) h, RpL.mono g hA hA' hp r⟩
    have ho := h
    constructor
    · intro z
      rcases hA' a (.inl z) with (q | q) | q
      · exact n1 q
      · exact n2 q
      · rw [q] at ho; cases ho
    · intro z
      rcases hA' a (.inr z) with (q | q) | q
      · exact n1 q
      · exact n2 q
      · rw [q] at ho; cases ho
  | .fro ds, _, h => by
    obtain ⟨a, xs, e, h, r⟩ := h
    exact ⟨a, xs, e, g.fz h, RpL.mono g hA hA' hp r⟩
  | .ptu ds, _, h => by
    obtain ⟨a, xs, e, ⟨o, h, hd⟩, r⟩ := h
    exact ⟨a, xs, e, ⟨o, g.keep a _ (fun _ z => z) h, hd⟩, RpL.mono g hA hA' hp r⟩
  | .dic ks ds, _, h => by
    obtain ⟨a, xs, e, ⟨n1, n2⟩, h, hl, r⟩ := h
    have nn : a ∉ A := hA a n1 n2
    refine ⟨a, xs, e, ?_, g.keep a _ (fun z => absurd z nn) h, hl, RpL.mono g hA hA' hp r⟩
    constructor
    · intro z
      rcases hA' a (.inl z) with (q | q) | q
      · exact n1 q
      · exact n2 q
      · rw [q] at h; cases h
    · intro z
      rcases hA' a (.inr z) with (q | q) | q
      · exact n1 q
      · exact n2 q
      · rw [q] at h; cases h
  | .ptr k, _, h => by
    obtain ⟨a, e, q⟩ := h
    exact ⟨a, hp k a e, q⟩
theorem RpL.mono (g : Gr A H A' H') (hA : ∀ a, a ∉ φ → a ∉ ψ → a ∉ A) (hA' : ∀ a, a ∈ φ' ∨ a ∈ ψ' → (a ∈ φ ∨ a ∈ ψ) ∨ H a = none) (hp : ∀ (k : Nat) (a : Addr), φ[k]? = some a → φ'[k]? = some a) :
    ∀ {ds : List D} {xs : List V}, RpL K φ ψ H ds xs → RpL K φ' ψ' H' ds xs
  | [], _, h => h
  | d :: ds, _, h => by
    obtain ⟨x, r, e, h1, h2⟩ := h
    exact ⟨x, r, e, Rp.mono g hA hA' hp h1, RpL.mono g hA hA' hp h2⟩
end
end

/-- cells' addresses grow at the end -/
structure Ext (φ φ' : List Addr) : Prop where
  pre : ∃ e, φ' = φ ++ e
theorem Ext.refl {φ : List Addr} : Ext φ φ := ⟨[], by simp⟩
theorem Ext.trans {φ φ1 φ2 : List Addr} (a : Ext φ φ1) (b : Ext φ1 φ2) : Ext φ φ2 := by
  obtain ⟨e, rfl⟩ := a.pre
  obtain ⟨e', rfl⟩ := b.pre
  exact ⟨e ++ e', by simp⟩
theorem Ext.new {φ : List Addr} {p : Addr} : Ext φ (φ ++ [p]) := ⟨[p], rfl⟩
theorem Ext.at {φ φ' : List Addr} (x : Ext φ φ') {k : Nat} {a : Addr} (h : φ[k]? = some a) : φ'[k]? = some a := by
  obtain ⟨e, rfl⟩ := x.pre
  rw [List.getElem?_append_left (List.getElem?_eq_some_iff.mp h).1]; exact h
theorem Ext.mem {φ φ' : List Addr} (x : Ext φ φ') : ∀ a ∈ φ, a ∈ φ' := fun a h => by
  obtain ⟨e, rfl⟩ := x.pre
  exact List.mem_append_left _ h

/-- what an expression, a call leave: cells may change, lists of ψ stand -/
structure Go (φ : List Addr) (H : Hp) (φ' : List Addr) (H' : Hp) : Prop where
  gr : Gr φ H φ' H'
  ext : Ext φ φ'
theorem Go.refl {φ : List Addr} {H : Hp} : Go φ H φ H := ⟨.refl, .refl⟩
theorem Go.trans {φ φ1 φ2 : List Addr} {H H1 H2 : Hp} (a : Go φ H φ1 H1) (b : Go φ1 H1 φ2 H2) : Go φ H φ2 H2 := ⟨a.gr.trans b.gr, a.ext.trans b.ext⟩
theorem Go.new {φ : List Addr} {H : Hp} {p : Addr} {o : HO} (h : H p = none) : Go φ H φ (upd H p o) := ⟨.new h, .refl⟩
section
variable {K : PySem.W.Frag} {φ ψ φ' ψ' : List Addr} {H H' : Hp} {d : D} {v : V} {ds : List D} {xs : List V}
theorem Go.hA' (g : Go φ H φ' H') : ∀ a, a ∈ φ' ∨ a ∈ ψ → (a ∈ φ ∨ a ∈ ψ) ∨ H a = none := fun a z => by
  rcases z with z | z
  · exact (g.gr.pre a z).imp_left .inl
  · exact .inl (.inr z)
theorem Go.rp (g : Go φ H φ' H') (h : Rp K φ ψ H d v) : Rp K φ' ψ H' d v := h.mono g.gr (fun _ h _ => h) g.hA' fun _ _ => g.ext.at
theorem Go.rpL (g : Go φ H φ' H') (h : RpL K φ ψ H ds xs) : RpL K φ' ψ H' ds xs := h.mono g.gr (fun _ h _ => h) g.hA' fun _ _ => g.ext.at
/-- less is asked of inner lists -/
theorem Rp.less (h : Rp K φ ψ H d v) (hs : ∀ a ∈ ψ', a ∈ ψ) : Rp K φ ψ' H d v := h.mono (A := φ) (A' := φ) .refl (fun _ h _ => h) (fun a z => .inl (z.imp_right (hs a))) fun _ _ h => h
theorem RpL.less (h : RpL K φ ψ H ds xs) (hs : ∀ a ∈ ψ', a ∈ ψ) : RpL K φ ψ' H ds xs := h.mono (A := φ) (A' := φ) .refl (fun _ h _ => h) (fun a z => .inl (z.imp_right (hs a))) fun _ _ h => h
theorem Rp.bare (h : Rp K φ ψ H d v) : Rp K φ [] H d v := h.less fun _ z => nomatch z
theorem RpL.bare (h : RpL K φ ψ H ds xs) : RpL K φ [] H ds xs := h.less fun _ z => nomatch z
/-- a new address is none of an inner list's -/
theorem Rp.more {p : Addr} (h : Rp K φ ψ H d v) (hp : H p = none) : Rp K φ (p :: ψ) H d v := h.mono (A := φ) (A' := φ) .refl (fun _ h _ => h) (fun a z => by
  rcases z with z | z
  · exact .inl (.inl z)
  · rcases List.mem_cons.mp z with rfl | z
    · exact .inr hp
    · exact .inl (.inr z)) fun _ _ h => h
theorem RpL.more {p : Addr} (h : RpL K φ ψ H ds xs) (hp : H p = none) : RpL K φ (p :: ψ) H ds xs := h.mono (A := φ) (A' := φ) .refl (fun _ h _ => h) (fun a z => by
  rcases z with z | z
  · exact .inl (.inl z)
  · rcases List.mem_cons.mp z with rfl | z
    · exact .inr hp
    · exact .inl (.inr z)) fun _ _ h => h
end

/-! ### lists of data -/
section
variable {K : PySem.W.Frag} {φ ψ : List Addr} {H : Hp}
theorem RpL.length : ∀ {ds : List D} {xs : List V}, RpL K φ ψ H ds xs → xs.length = ds.length
  | [], _, h => by cases h; rfl
  | d :: ds, _, h => by
    obtain ⟨x, r, rfl, _, h2⟩ := h
    simp [h2.length]
theorem RpL.nil : RpL K φ ψ H [] [] := rfl
theorem RpL.cons {d : D} {v : V} {ds : List D} {xs : List V} (h : Rp K φ ψ H d v) (r : RpL K φ ψ H ds xs) : RpL K φ ψ H (d :: ds) (v :: xs) := ⟨v, xs, rfl, h, r⟩
theorem RpL.get : ∀ {ds : List D} {xs : List V} {i : Nat} {d : D}, RpL K φ ψ H ds xs → ds[i]? = some d → ∃ v, xs[i]? = some v ∧ Rp K φ ψ H d v
  | [], _, _, _, _, e => by simp at e
  | d :: ds, _, 0, _, h, e => by
    obtain ⟨x, r, rfl, h1, _⟩ := h
    simp at e; subst e
    exact ⟨x, rfl, h1⟩
  | d :: ds, _, i + 1, _, h, e => by
    obtain ⟨x, r, rfl, _, h2⟩ := h
    obtain ⟨v, e1, e2⟩ := h2.get (i := i) (by simpa using e)
    exact ⟨v, by simpa using e1, e2⟩
theorem RpL.getV : ∀ {ds : List D} {xs : List V} {i : Nat} {v : V}, RpL K φ ψ H ds xs → xs[i]? = some v → ∃ d, ds[i]? = some d ∧ Rp K φ ψ H d v
  | [], _, _, _, h, e => by cases h; simp at e
  | d :: ds, _, 0, _, h, e => by
    obtain ⟨x, r, rfl, h1, _⟩ := h
    simp at e; subst e
    exact ⟨d, rfl, h1⟩
  | d :: ds, _, i + 1, _, h, e => by
    obtain ⟨x, r, rfl, _, h2⟩ := h
    obtain ⟨d, e1, e2⟩ := h2.getV (i := i) (by simpa using e)
    exact ⟨d, by simpa using e1, e2⟩
theorem RpL.append : ∀ {ds es : List D} {xs ys : List V}, RpL K φ ψ H ds xs → RpL K φ ψ H es ys → RpL K φ ψ H (ds ++ es) (xs ++ ys)
  | [], _, _, _, h, q => by cases h; exact q
  | d :: ds, _, _, _, h, q => by
    obtain ⟨x, r, rfl, h1, h2⟩ := h
    exact ⟨x, _, rfl, h1, h2.append q⟩
theorem RpL.set : ∀ {ds : List D} {xs : List V} (i : Nat) {d : D} {v : V}, RpL K φ ψ H ds xs → Rp K φ ψ H d v → RpL K φ ψ H (ds.set i d) (xs.set i v)
  | [], _, _, _, _, h, _ => by cases h; rfl
  | d :: ds, _, 0, _, _, h, q => by
    obtain ⟨x, r, rfl, h1, h2⟩ := h
    exact ⟨_, _, rfl, q, h2⟩
  | d :: ds, _, i + 1, _, _, h, q => by
    obtain ⟨x, r, rfl, h1, h2⟩ := h
    exact ⟨_, _, rfl, h1, h2.set i q⟩
theorem RpL.drop : ∀ {ds : List D} {xs : List V} (n : Nat), RpL K φ ψ H ds xs → RpL K φ ψ H (ds.drop n) (xs.drop n)
  | ds, _, 0, h => h
  | [], _, _ + 1, h => by cases h; rfl
  | d :: ds, _, n + 1, h => by
    obtain ⟨x, r, rfl, _, h2⟩ := h
    exact h2.drop n
theorem RpL.take : ∀ {ds : List D} {xs : List V} (n : Nat), RpL K φ ψ H ds xs → RpL K φ ψ H (ds.take n) (xs.take n)
  | ds, _, 0, h => by simp [RpL]
  | [], _, _ + 1, h => by cases h; rfl
  | d :: ds, _, n + 1, h => by
    obtain ⟨x, r, rfl, h1, h2⟩ := h
    exact ⟨x, _, rfl, h1, h2.take n⟩
theorem RpL.reverse {ds : List D} {xs : List V} (h : RpL K φ ψ H ds xs) : RpL K φ ψ H ds.reverse xs.reverse := by
  induction ds generalizing xs with
  | nil => cases h; rfl
  | cons d ds ih =>
    obtain ⟨x, r, rfl, h1, h2⟩ := h
    rw [List.reverse_cons, List.reverse_cons]
    exact (ih h2).append (.cons h1 .nil)
theorem RpL.nil_iff {ds : List D} {xs : List V} (h : RpL K φ ψ H ds xs) : xs = [] ↔ ds = [] := by
  have := h.length
  constructor
  · rintro rfl; exact List.length_eq_zero_iff.mp this.symm
  · rintro rfl; exact List.length_eq_zero_iff.mp this
end

/-! ### cells -/
def CellOk (K : PySem.W.Frag) (mg : Str → Option Value) (φ ψ : List Addr) (H : Hp) : Cell → Addr → Prop
  | .lst ds, a => ∃ xs, H a = some (.lst xs) ∧ RpL K φ ψ H ds xs
  | .dic ks ds, a => ∃ xs, H a = some (.dK (ks.zip xs)) ∧ ks.length = ds.length ∧ RpL K φ ψ H ds xs
  | .ins c fs ds, a => ∃ C dx xs, mg c = some (.ref C) ∧ H a = some (.ins C dx (fs.zip xs)) ∧ fs.length = ds.length ∧ RpL K φ ψ H ds xs
/-- the memory stands for the cells -/
structure MemOk (K : PySem.W.Frag) (mg : Str → Option Value) (φ ψ : List Addr) (μ : Mem) (H : Hp) : Prop where
  len : φ.length = μ.length
  nd : φ.Nodup
  ats : ∀ (k : Nat) (c : Cell) (a : Addr), μ[k]? = some c → φ[k]? = some a → CellOk K mg φ ψ H c a
  trk : ∀ a ∈ ψ, ∃ o, H a = some o
  dis : ∀ a ∈ ψ, a ∉ φ
section
variable {K : PySem.W.Frag} {mg : Str → Option Value} {φ ψ φ' ψ' : List Addr} {H H' : Hp} {c : Cell} {a : Addr} {μ μ' : Mem}
theorem CellOk.mut (h : CellOk K mg φ ψ H c a) : ∃ o, H a = some o ∧ Mut (some o) := by
  cases c with
  | lst ds => obtain ⟨xs, e, _⟩ := h; exact ⟨_, e, trivial⟩
  | dic ks ds => obtain ⟨xs, e, _⟩ := h; exact ⟨_, e, trivial⟩
  | ins c fs ds => obtain ⟨C, dx, xs, _, e, _⟩ := h; exact ⟨_, e, trivial⟩
theorem CellOk.via (f : ∀ {ds : List D} {xs : List V}, RpL K φ ψ H ds xs → RpL K φ' ψ' H' ds xs) (k : ∀ o, H a = some o → H' a = some o) (h : CellOk K mg φ ψ H c a) : CellOk K mg φ' ψ' H' c a := by
  cases c with
  | lst ds => obtain ⟨xs, e, r⟩ := h; exact ⟨xs, k _ e, f r⟩
  | dic ks ds => obtain ⟨xs, e, l, r⟩ := h; exact ⟨xs, k _ e, l, f r⟩
  | ins c fs ds => obtain ⟨C, dx, xs, m, e, l, r⟩ := h; exact ⟨C, dx, xs, m, k _ e, l, f r⟩
theorem MemOk.less (h : MemOk K mg φ ψ μ H) (hs : ∀ a ∈ ψ', a ∈ ψ) : MemOk K mg φ ψ' μ H :=
  ⟨h.len, h.nd, fun k c a e e' => (h.ats k c a e e').via (fun r => r.less hs) fun _ z => z, fun a z => h.trk a (hs a z), fun a z => h.dis a (hs a z)⟩
theorem MemOk.cell (h : MemOk K mg φ ψ μ H) {k : Nat} (e : μ[k]? = some c) : ∃ a, φ[k]? = some a ∧ CellOk K mg φ ψ H c a := by
  have hl : k < φ.length := by rw [h.len]; exact (List.getElem?_eq_some_iff.mp e).1
  exact ⟨φ[k], by simp [hl], h.ats k c _ e (by simp [hl])⟩
theorem MemOk.tracked (h : MemOk K mg φ ψ μ H) (ha : a ∈ φ) : ∃ o, H a = some o ∧ Mut (some o) := by
  obtain ⟨k, hk, e⟩ := List.getElem_of_mem ha
  have hk' : k < μ.length := by rw [← h.len]; exact hk
  exact (h.ats k μ[k] a (by simp [hk']) (by simp [hk, e])).mut
/-- a new object that is no cell -/
theorem MemOk.new {p : Addr} {o : HO} (h : MemOk K mg φ ψ μ H) (hp : H p = none) : MemOk K mg φ ψ μ (upd H p o) := by
  have g : Go φ H φ (upd H p o) := .new hp
  exact ⟨h.len, h.nd, fun k c a e e' => (h.ats k c a e e').via g.rpL (fun u q => by rw [upd_ne (ne_of_none q hp)]; exact q),
    fun a z => (h.trk a z).elim fun u q => ⟨u, by rw [upd_ne (ne_of_none q hp)]; exact q⟩, h.dis⟩
/-- a cell changes -/
theorem MemOk.set {k : Nat} {o u : HO} (h : MemOk K mg φ ψ μ H) (ha : φ[k]? = some a) (e : H a = some o) (m : Mut (some o)) (new : CellOk K mg φ ψ (upd H a u) c a) : MemOk K mg φ ψ (μ.set k c) (upd H a u) := by
  have hm : a ∈ φ := List.mem_of_getElem? ha
  have g : Gr φ H φ (upd H a u) := .mut hm e m
  refine ⟨by simp [h.len], h.nd, fun j c' b e1 e2 => ?_, fun b z => ?_, h.dis⟩
  · by_cases hj : j = k
    · subst hj
      rw [ha] at e2; cases e2
      have hk : j < μ.length := by rw [← h.len]; exact (List.getElem?_eq_some_iff.mp ha).1
      rw [List.getElem?_set_self hk] at e1; cases e1
      exact new
    · rw [List.getElem?_set_ne (Ne.symm hj)] at e1
      have hb : b ≠ a := fun z => hj (nd_ix h.nd (z ▸ e2) ha)
      exact (h.ats j c' b e1 e2).via (Go.rpL ⟨g, .refl⟩) fun u q => by rw [upd_ne hb]; exact q
  · by_cases hb : b = a
    · subst hb; exact ⟨u, upd_same⟩
    · obtain ⟨u', q⟩ := h.trk b z
      exact ⟨u', by rw [upd_ne hb]; exact q⟩
/-- a new cell -/
theorem MemOk.push {p : Addr} {u : HO} (h : MemOk K mg φ ψ μ H) (hp : H p = none) (new : CellOk K mg (φ ++ [p]) ψ (upd H p u) c p) : MemOk K mg (φ ++ [p]) ψ (μ ++ [c]) (upd H p u) := by
  have hnew : p ∉ φ := fun z => by
    obtain ⟨o, e, _⟩ := h.tracked z
    rw [hp] at e; cases e
  have g : Go φ H (φ ++ [p]) (upd H p u) := ⟨.newC hp, .new⟩
  refine ⟨by simp [h.len], ?_, fun j c' b e1 e2 => ?_, fun b z => ?_, fun b z q => ?_⟩
  · rw [List.nodup_append]
    exact ⟨h.nd, by simp, fun x hx y hy => by
      have : y = p := by simpa using hy
      subst this
      exact fun z => hnew (z ▸ hx)⟩
  · by_cases hj : j < φ.length
    · rw [List.getElem?_append_left hj] at e2
      rw [List.getElem?_append_left (by rw [← h.len]; exact hj)] at e1
      have hb : b ≠ p := fun z => hnew (z ▸ List.mem_of_getElem? e2)
      exact (h.ats j c' b e1 e2).via g.rpL fun u q => by rw [upd_ne hb]; exact q
    · have hj' : j = φ.length := by
        have := (List.getElem?_eq_some_iff.mp e2).1
        simp at this; omega
      subst hj'
      rw [List.getElem?_append_right (Nat.le_refl _)] at e2
      rw [h.len, List.getElem?_append_right (Nat.le_refl _)] at e1
      simp at e1 e2
      subst e1 e2
      exact new
  · obtain ⟨o, q⟩ := h.trk b z
    exact ⟨o, by rw [upd_ne (ne_of_none q hp)]; exact q⟩
  · rcases List.mem_append.mp q with q | q
    · exact h.dis b z q
    · have : b = p := by simpa using q
      subst this
      obtain ⟨o, e⟩ := h.trk b z
      rw [hp] at e; cases e
end

/-- slots, memory: what an expression sees -/
structure Rel (K : PySem.W.Frag) (mg : Str → Option Value) (φ χ ψ : List Addr) (μ : Mem) (η : Env') (σ : L2.St) (H : Hp) : Prop where
  mem : MemOk K mg φ (χ ++ ψ) μ H
  len : η.length = σ.length
  ats : ∀ (i : Nat) (d : D), η[i]? = some (some d) → ∃ v, σ[i]? = some (some v) ∧ Rp K φ χ H d v
theorem Rel.go {K : PySem.W.Frag} {mg : Str → Option Value} {φ χ ψ φ' : List Addr} {μ μ' : Mem} {η : Env'} {σ : L2.St} {H H' : Hp} (r : Rel K mg φ χ ψ μ η σ H) (g : Go φ H φ' H') (m : MemOk K mg φ' (χ ++ ψ) μ' H') : Rel K mg φ' χ ψ μ' η σ H' :=
  ⟨m, r.len, fun i d e => let ⟨v, e1, p⟩ := r.ats i d e; ⟨v, e1, g.rp p⟩⟩

/-! ### readings -/
/-- an exception's data -/
def XOk (K : PySem.W.Frag) (mg : Str → Option Value) (φ χ : List Addr) (H : Hp) (x : Exn) (cls : Value) (d : Option Addr) : Prop :=
  ∃ C dx xs, mg x.cls = some (.ref C) ∧ cls = .ref C ∧ d = some dx ∧ H dx = some (.xd (x.fs.zip xs)) ∧ x.fs.length = x.vs.length ∧ RpL K φ χ H x.vs xs
/-- what is wanted behind: of a value by rep, of an exception by W -/
def Post {α β : Type} (K : PySem.W.Frag) (mg : Str → Option Value) (W : WX) (rep : List Addr → List Addr → List Addr → Hp → α → β → Prop) (σ : L2.St) (φ χ ψ : List Addr) (H : Hp) (r : R α) (Q : β → Hp → Prop) : Prop :=
  match r with
  | .ok d μ' => ∀ v φ' H', Go φ H φ' H' → MemOk K mg φ' (χ ++ ψ) μ' H' → rep φ' χ ψ H' d v → Q v H'
  | .exc x μ' => ∀ cls a φ' H', Go φ H φ' H' → MemOk K mg φ' (χ ++ ψ) μ' H' → XOk K mg φ' χ H' x cls a → W cls a σ H'
  | .stuck => False
section
variable {α β γ δ : Type} {K : PySem.W.Frag} {mg : Str → Option Value} {W : WX} {rep : List Addr → List Addr → List Addr → Hp → α → β → Prop} {rep' : List Addr → List Addr → List Addr → Hp → γ → δ → Prop} {σ : L2.St} {φ χ ψ φ' : List Addr} {H H' : Hp} {μ : Mem} {η : Env'}
theorem Post.go {r : R α} {Q : β → Hp → Prop} (p : Post K mg W rep σ φ χ ψ H r Q) (g : Go φ H φ' H') : Post K mg W rep σ φ' χ ψ H' r Q := by
  cases r with
  | ok d μ' => exact fun v φ2 H2 g2 m r => p v φ2 H2 (g.trans g2) m r
  | exc x μ' => exact fun c a φ2 H2 g2 m r => p c a φ2 H2 (g.trans g2) m r
  | stuck => exact p
abbrev rV (K : PySem.W.Frag) : List Addr → List Addr → List Addr → Hp → D → V → Prop := fun φ χ _ H d v => Rp K φ χ H d v
/-- .. no inner list is one of ψ -/
abbrev rS (K : PySem.W.Frag) : List Addr → List Addr → List Addr → Hp → D → V → Prop := fun φ χ ψ H d v => Rp K φ (χ ++ ψ) H d v
abbrev rL (K : PySem.W.Frag) : List Addr → List Addr → List Addr → Hp → List D → List V → Prop := fun φ χ _ H d v => RpL K φ χ H d v
abbrev rB : List Addr → List Addr → List Addr → Hp → Bool → Bool → Prop := fun _ _ _ _ a b => a = b
abbrev MV := Env' → Mem → R D
abbrev MB := Env' → Mem → R Bool
abbrev ML := Env' → Mem → R (List D)
/-- the reading of a plain function -/
def rd (K : PySem.W.Frag) (mg : Str → Option Value) (W : WX) (rep : List Addr → List Addr → List Addr → Hp → α → β → Prop) (m : Env' → Mem → R α) : L2.St → Hp → (β → Hp → Prop) → Prop := fun σ H Q =>
  ∃ φ χ ψ μ η, Rel K mg φ χ ψ μ η σ H ∧ Post K mg W rep σ φ χ ψ H (m η μ) Q
/-- one part, then the rest -/
theorem rd_bind {m : Env' → Mem → R α} {g : α → Mem → R γ} {Q : δ → Hp → Prop} {C : β → Hp → Prop} (r : Rel K mg φ χ ψ μ η σ H) (p : Post K mg W rep' σ φ χ ψ H ((m η μ).bind g) Q)
    (k : ∀ φ1 H1 μ1 d x, Go φ H φ1 H1 → Rel K mg φ1 χ ψ μ1 η σ H1 → rep φ1 χ ψ H1 d x → Post K mg W rep' σ φ1 χ ψ H1 (g d μ1) Q → C x H1) : rd K mg W rep m σ H C := by
  refine ⟨φ, χ, ψ, μ, η, r, ?_⟩
  cases h : m η μ with
  | ok d μ1 =>
    rw [h] at p
    exact fun v φ1 H1 g1 m1 rp => k φ1 H1 μ1 d v g1 (r.go g1 m1) rp (Post.go p g1)
  | exc x μ1 => rw [h] at p; exact p
  | stuck => rw [h] at p; exact p
end
/-- readings of an expression, a test, arguments -/
abbrev EE (X : Cx) (W : WX) (e : Expr) (m : MV) : Prop := PE X e (rd X.K X.mg W (rV X.K) m)
abbrev ES (X : Cx) (W : WX) (e : Expr) (m : MV) : Prop := PE X e (rd X.K X.mg W (rS X.K) m)
abbrev TT' (X : Cx) (W : WX) (e : Expr) (m : MB) : Prop := PT X e (rd X.K X.mg W rB m)
abbrev WW (X : Cx) (W : WX) (e : Expr) (m : MB) : Prop := PW X e (rd X.K X.mg W rB m)
abbrev AA (X : Cx) (W : WX) (es : List Expr) (m : ML) : Prop := PA X es (rd X.K X.mg W (rL X.K) m)
/-- readings may be weakened -/
theorem _root_.L2.PE.imp {X : Cx} {e : Expr} {t u : TE} (h : PE X e t) (f : ∀ σ H Q, u σ H Q → t σ H Q) : PE X e u := ⟨fun pins s σ H Q I q => h.run pins s σ H Q I (f σ H Q q)⟩
theorem _root_.L2.PT.imp {X : Cx} {e : Expr} {t u : TT} (h : PT X e t) (f : ∀ σ H Q, u σ H Q → t σ H Q) : PT X e u := ⟨fun pins s σ H Q I q => h.run pins s σ H Q I (f σ H Q q)⟩
theorem _root_.L2.PW.imp {X : Cx} {e : Expr} {t u : TT} (h : PW X e t) (f : ∀ σ H Q, u σ H Q → t σ H Q) : PW X e u := ⟨fun wh pins s σ H Q I q => h.run wh pins s σ H Q I (f σ H Q q)⟩
theorem _root_.L2.PA.imp {X : Cx} {es : List Expr} {t u : TA} (h : PA X es t) (f : ∀ σ H Q, u σ H Q → t σ H Q) : PA X es u := ⟨fun pos pins s σ H Q I q => h.run pos pins s σ H Q I (f σ H Q q)⟩
theorem _root_.L2.PE.or {X : Cx} {e : Expr} {t u : TE} (h : PE X e t) (h' : PE X e u) : PE X e (fun σ H Q => t σ H Q ∨ u σ H Q) := ⟨fun pins s σ H Q I q => q.elim (h.run pins s σ H Q I) (h'.run pins s σ H Q I)⟩
theorem _root_.L2.PS.imp {X : Cx} {st : Stmt} {t u : TS} (h : PS X st t) (f : ∀ D σ H, u D σ H → t D σ H) : PS X st u := ⟨fun pins s σ H D I q => h.run pins s σ H D I (f D σ H q)⟩
theorem _root_.L2.PSs.imp {X : Cx} {st : List Stmt} {t u : TS} (h : PSs X st t) (f : ∀ D σ H, u D σ H → t D σ H) : PSs X st u := ⟨fun pins s σ H D I q => h.run pins s σ H D I (f D σ H q)⟩
theorem _root_.L2.PS.or {X : Cx} {e : Stmt} {t u : TS} (h : PS X e t) (h' : PS X e u) : PS X e (fun D σ H => t D σ H ∨ u D σ H) := ⟨fun pins s σ H Q I q => q.elim (h.run pins s σ H Q I) (h'.run pins s σ H Q I)⟩
theorem _root_.L2.PI.or {X : Cx} {tg it : Expr} {t u : TI} (h : PI X tg it t) (h' : PI X tg it u) : PI X tg it (fun σ H Q => t σ H Q ∨ u σ H Q) := ⟨fun pins s σ H Q I q => q.elim (h.run pins s σ H Q I) (h'.run pins s σ H Q I)⟩
theorem _root_.L2.PI.imp {X : Cx} {tg it : Expr} {t u : TI} (h : PI X tg it t) (f : ∀ σ H Q, u σ H Q → t σ H Q) : PI X tg it u := ⟨fun pins s σ H Q I q => h.run pins s σ H Q I (f σ H Q q)⟩

/-! ### names, constants, displays -/
def mVar (i : Nat) : MV := fun η μ => match η[i]? with
  | some (some d) => .ok d μ
  | _ => .stuck
def mC (d : D) : MV := fun _ μ => .ok d μ
section
variable {X : Cx} {W : WX}
theorem ee_var {i : Nat} {e : Expr} (h : PE X e (tVar i)) : EE X W e (mVar i) := h.imp fun σ H Q q => by
  obtain ⟨φ, χ, ψ, μ, η, r, p⟩ := q
  unfold mVar at p
  split at p
  · rename_i d e
    obtain ⟨v, e1, rp⟩ := r.ats i d e
    exact ⟨v, e1, p v φ H .refl r.mem rp⟩
  · exact p.elim
theorem ee_c {e : Expr} {d : D} {v : V} (h : PE X e (tC v)) (hr : ∀ φ χ H, Rp X.K φ χ H d v) : EE X W e (mC d) := h.imp fun σ H Q q => by
  obtain ⟨φ, χ, ψ, μ, η, r, p⟩ := q
  exact p v φ H .refl r.mem (hr φ χ H)
theorem ee_int {i : Int} {j pos} : EE X W (.Constant (.int i) j pos) (mC (.int i)) := ee_c pe_int fun _ _ _ => rfl
theorem ee_bl {b : Bool} {j pos} : EE X W (.Constant (.bool b) j pos) (mC (.bl b)) := ee_c pe_bl fun _ _ _ => rfl
theorem ee_non {j pos} : EE X W (.Constant .none j pos) (mC .non) := ee_c pe_non fun _ _ _ => rfl
theorem ee_str {x : Str} {j pos} : EE X W (.Constant (.str x) j pos) (mC (.str x)) := ee_c pe_str fun _ _ _ => rfl
/-! arguments -/
def aNil : ML := fun _ μ => .ok [] μ
def aCons (m : MV) (ms : ML) : ML := fun η μ => (m η μ).bind fun d μ1 => (ms η μ1).bind fun ds μ2 => .ok (d :: ds) μ2
theorem aa_nil : AA X W [] aNil := pa_nil.imp fun σ H Q q => by
  obtain ⟨φ, χ, ψ, μ, η, r, p⟩ := q
  exact p [] φ H .refl r.mem rfl
theorem aa_cons {e : Expr} {es : List Expr} {m : MV} {ms : ML} (h : EE X W e m) (hr : AA X W es ms) (hs : starEach (e :: es) X.env = (false, eval e X.env) :: starEach es X.env := by rfl) : AA X W (e :: es) (aCons m ms) :=
  (pa_cons h hr hs).imp fun σ H Q q => by
    obtain ⟨φ, χ, ψ, μ, η, r, p⟩ := q
    refine rd_bind r p fun φ1 H1 μ1 d x g1 r1 rx p1 => ?_
    refine rd_bind r1 p1 fun φ2 H2 μ2 ds xs g2 r2 rxs p2 => ?_
    exact p2 (x :: xs) φ2 H2 .refl r2.mem (.cons (g2.rp rx) rxs)
def mTup (ms : ML) : MV := fun η μ => (ms η μ).bind fun ds μ1 => if ds.length ≤ 10000000 then .ok (.tup ds) μ1 else .stuck
def mLst (ms : ML) : MV := fun η μ => (ms η μ).bind fun ds μ1 => if ds.length ≤ 10000000 then .ok (.lst ds) μ1 else .stuck
theorem line_le {n : Nat} (h : n ≤ 10000000) : n ≤ sizeLine := Nat.le_trans h (by decide)
theorem Post.ite {α β : Type} {K : PySem.W.Frag} {mg : Str → Option Value} {rep : List Addr → List Addr → List Addr → Hp → α → β → Prop} {σ : L2.St} {φ χ ψ : List Addr} {H : Hp} {c : Prop} [Decidable c] {r : R α} {Q : β → Hp → Prop} (p : Post K mg W rep σ φ χ ψ H (if c then r else .stuck) Q) : c ∧ Post K mg W rep σ φ χ ψ H r Q := by
  split at p
  · rename_i h; exact ⟨h, p⟩
  · exact p.elim
theorem Gr.notin {φ ψ : List Addr} {K : PySem.W.Frag} {mg : Str → Option Value} {μ : Mem} {H : Hp} {p : Addr} (m : MemOk K mg φ ψ μ H) (hp : H p = none) : p ∉ φ := fun z => by
  obtain ⟨o, e, _⟩ := m.tracked z
  rw [hp] at e; cases e
theorem Gr.off {φ ψ : List Addr} {K : PySem.W.Frag} {mg : Str → Option Value} {μ : Mem} {H : Hp} {p : Addr} (m : MemOk K mg φ ψ μ H) (hp : H p = none) : p ∉ ψ := fun z => by
  obtain ⟨o, e⟩ := m.trk p z
  rw [hp] at e; cases e
theorem Gr.offχ {φ χ ψ : List Addr} {K : PySem.W.Frag} {mg : Str → Option Value} {μ : Mem} {H : Hp} {p : Addr} (m : MemOk K mg φ (χ ++ ψ) μ H) (hp : H p = none) : p ∉ χ := fun z => Gr.off m hp (List.mem_append_left _ z)
theorem ee_tup {es : List Expr} {ms : ML} {k pos} (h : AA X W es ms) : EE X W (.Tuple es k pos) (mTup ms) := (pe_tup h).imp fun σ H Q q => by
  obtain ⟨φ, χ, ψ, μ, η, r, p⟩ := q
  refine rd_bind r p fun φ1 H1 μ1 ds xs g1 r1 rx p1 => ?_
  obtain ⟨c, p1⟩ := p1.ite
  refine ⟨line_le (by rw [rx.length]; exact c), fun a ha => ?_⟩
  have g : Go φ1 H1 φ1 (upd H1 a (.tup xs)) := .new ha
  exact p1 _ φ1 _ g (r1.mem.new ha) ⟨a, xs, rfl, .of upd_same, g.rpL rx⟩
theorem ee_lst {es : List Expr} {ms : ML} {pos} (h : AA X W es ms) : EE X W (.List es pos) (mLst ms) := (pe_lst h).imp fun σ H Q q => by
  obtain ⟨φ, χ, ψ, μ, η, r, p⟩ := q
  refine rd_bind r p fun φ1 H1 μ1 ds xs g1 r1 rx p1 => ?_
  obtain ⟨c, p1⟩ := p1.ite
  refine ⟨line_le (by rw [rx.length]; exact c), fun a ha => ?_⟩
  have g : Go φ1 H1 φ1 (upd H1 a (.lst xs)) := .new ha
  exact p1 _ φ1 _ g (r1.mem.new ha) ⟨a, xs, rfl, ⟨Gr.notin r1.mem ha, Gr.offχ r1.mem ha⟩, upd_same, g.rpL rx⟩
end
end FP
/-! Core2: operators, comparisons, tests, subscripts. -/
namespace FP
open PySem PySem.Spec L2
open PyProof.Rows hiding St

/-! ### what stands at data -/
/-- the items of a list -/
def lseq (μ : Mem) : D → Option (List D)
  | .lst ds => some ds
  | .fro ds => some ds
  | .ptr k => match μ[k]? with
    | some (.lst ds) => some ds
    | _ => none
  | _ => none
/-- the items of a list or a tuple -/
def aseq (μ : Mem) : D → Option (List D)
  | .tup ds => some ds
  | .ptu ds => some ds
  | d => lseq μ d
@[simp] theorem lseq_lst (μ : Mem) (ds : List D) : lseq μ (.lst ds) = some ds := (Eq.refl _).trans (Eq.refl _)
@[simp] theorem lseq_fro (μ : Mem) (ds : List D) : lseq μ (.fro ds) = some ds := (Eq.refl _).trans (Eq.refl _)
@[simp] theorem aseq_lst (μ : Mem) (ds : List D) : aseq μ (.lst ds) = some ds := (Eq.refl _).trans (Eq.refl _)
@[simp] theorem aseq_fro (μ : Mem) (ds : List D) : aseq μ (.fro ds) = some ds := (Eq.refl _).trans (Eq.refl _)
@[simp] theorem aseq_ptu (μ : Mem) (ds : List D) : aseq μ (.ptu ds) = some ds := (Eq.refl _).trans (Eq.refl _)
@[simp] theorem aseq_tup (μ : Mem) (ds : List D) : aseq μ (.tup ds) = some ds := (Eq.refl _).trans (Eq.refl _)
section
variable {K : PySem.W.Frag} {mg : Str → Option Value} {φ χ ψ : List Addr} {H : Hp} {μ : Mem} {d : D} {v : V} {ds : List D}
theorem lseq_rp (m : MemOk K mg φ (χ ++ ψ) μ H) (r : Rp K φ χ H d v) (e : lseq μ d = some ds) : ∃ a xs, v = .ref a ∧ SqL K H a xs ∧ RpL K φ χ H ds xs := by
  cases d with
  | lst l =>
    cases e
    obtain ⟨a, xs, e, _, h, q⟩ := r
    exact ⟨a, xs, e, .of h, q⟩
  | fro l =>
    cases e
    obtain ⟨a, xs, e, h, q⟩ := r
    exact ⟨a, xs, e, h.seq, q⟩
  | ptr k =>
    unfold lseq at e
    simp only at e
    split at e
    · rename_i l hl
      cases e
      obtain ⟨a, ha, rfl⟩ := r
      obtain ⟨xs, e1, q⟩ := m.ats k _ a hl ha
      exact ⟨a, xs, rfl, .of e1, q.less fun _ z => List.mem_append_left _ z⟩
    · cases e
  | _ => cases e
theorem aseq_rp (m : MemOk K mg φ (χ ++ ψ) μ H) (r : Rp K φ χ H d v) (e : aseq μ d = some ds) : ∃ a xs, v = .ref a ∧ (SqL K H a xs ∨ SqT K H a xs) ∧ RpL K φ χ H ds xs := by
  by_cases h : (∃ l, d = .tup l) ∨ (∃ l, d = .ptu l)
  · rcases h with ⟨l, rfl⟩ | ⟨l, rfl⟩
    · cases e
      obtain ⟨a, xs, e, h, q⟩ := r
      exact ⟨a, xs, e, .inr h, q⟩
    · cases e
      obtain ⟨a, xs, e, ⟨o, h, _⟩, q⟩ := r
      exact ⟨a, xs, e, .inr (.inl (.inr ⟨o, h⟩)), q⟩
  · have e' : lseq μ d = some ds := by
      cases d with
      | tup l => exact absurd (.inl ⟨l, rfl⟩) h
      | ptu l => exact absurd (.inr ⟨l, rfl⟩) h
      | _ => exact e
    obtain ⟨a, xs, e1, h, q⟩ := lseq_rp m r e'
    exact ⟨a, xs, e1, .inl h, q⟩
end

/-! ### two-place operations -/
def mOp (f : D → D → Mem → R D) (a b : MV) : MV := fun η μ => (a η μ).bind fun x μ1 => (b η μ1).bind fun y μ2 => f x y μ2
/-- f is what r asks -/
def OpS (K : PySem.W.Frag) (mg : Str → Option Value) (f : D → D → Mem → R D) (r : R2) : Prop :=
  ∀ (W : WX) (φ χ ψ : List Addr) (μ : Mem) (σ : L2.St) (H : Hp) (d e : D) (x y : V) (Q : VK), MemOk K mg φ (χ ++ ψ) μ H → Rp K φ χ H d x → Rp K φ χ H e y → Post K mg W (rV K) σ φ χ ψ H (f d e μ) Q → r x y H Q
section
variable {X : Cx} {W : WX} {f : D → D → Mem → R D} {r : R2} {a b : Expr} {ma mb : MV} {pos : Pos}
theorem rd_op {σ : L2.St} {H : Hp} {Q : VK} (hr : OpS X.K X.mg f r) (q : rd X.K X.mg W (rV X.K) (mOp f ma mb) σ H Q) : tOp r (rd X.K X.mg W (rV X.K) ma) (rd X.K X.mg W (rV X.K) mb) σ H Q := by
  obtain ⟨φ, χ, ψ, μ, η, rl, p⟩ := q
  refine rd_bind rl p fun φ1 H1 μ1 d x g1 r1 rx p1 => ?_
  refine rd_bind r1 p1 fun φ2 H2 μ2 e y g2 r2 ry p2 => ?_
  exact hr W φ2 χ ψ μ2 σ H2 d e x y Q r2.mem (g2.rp rx) ry p2
theorem ee_op {op : Operator} (ho : OpR X (binaryOp op) r) (hr : OpS X.K X.mg f r) (ha : EE X W a ma) (hb : EE X W b mb) : EE X W (.BinOp a op b pos) (mOp f ma mb) :=
  (pe_op ho ha hb).imp fun _ _ _ q => rd_op hr q
theorem ee_cmp {op : CmpOp} (ho : OpR X (compareOp op) r) (hr : OpS X.K X.mg f r) (ha : EE X W a ma) (hb : EE X W b mb) (hm : behindInMarks op b = false) : EE X W (.Compare a [op] [b] pos) (mOp f ma mb) :=
  (pe_cmpR ho ha hb hm).imp fun _ _ _ q => rd_op hr q
/-- a truth value as a test -/
def mTst (m : MV) : MB := fun η μ => (m η μ).bind fun d μ1 => match d with
  | .bl b => .ok b μ1
  | _ => .stuck
theorem rd_tst {K : PySem.W.Frag} {mg : Str → Option Value} {m : MV} {σ : L2.St} {H : Hp} {Q : Bool → Hp → Prop} (q : rd K mg W rB (mTst m) σ H Q) : rd K mg W (rV K) m σ H fun x H1 => ∃ k, x = .bl k ∧ Q k H1 := by
  obtain ⟨φ, χ, ψ, μ, η, rl, p⟩ := q
  refine rd_bind rl p fun φ1 H1 μ1 d x g1 r1 rx p1 => ?_
  split at p1
  · rename_i b
    exact ⟨b, rx, p1 b φ1 H1 .refl r1.mem rfl⟩
  · exact p1.elim
theorem tt_cmp {op : CmpOp} (ho : OpR X (compareOp op) r) (hr : OpS X.K X.mg f r) (ha : EE X W a ma) (hb : EE X W b mb) (hm : behindInMarks op b = false) : TT' X W (.Compare a [op] [b] pos) (mTst (mOp f ma mb)) :=
  (pt_cmpR ho ha hb hm).imp fun _ _ _ q => by
    have z := rd_tst q
    obtain ⟨φ, χ, ψ, μ, η, rl, p⟩ := z
    exact rd_op hr ⟨φ, χ, ψ, μ, η, rl, p⟩
theorem tt_val {e : Expr} {m : MV} (h : EE X W e m) (he : ∀ whole, isTrue e X.env whole = (do let v ← whole; standAt e.pos; holding [v] (truthy v)) := by intro _; rfl) : TT' X W e (mTst m) :=
  (pt_val h he).imp fun _ _ _ q => rd_tst q
end

/-! ### + - * // % -/
def fAdd : D → D → Mem → R D
  | .int i, .int j, μ => .ok (.int (i + j)) μ
  | .str a, .str b, μ => if a.length + b.length ≤ 10000000 then .ok (.str (a ++ b)) μ else .stuck
  | .tup a, .tup b, μ => if a.length + b.length ≤ 10000000 then .ok (.tup (a ++ b)) μ else .stuck
  | .lst a, .lst b, μ => if a.length + b.length ≤ 10000000 then .ok (.lst (a ++ b)) μ else .stuck
  | _, _, _ => .stuck
def rAddD (K : PySem.W.Frag) : R2 := fun x y H Q => (∃ i j, x = .int i ∧ y = .int j ∧ Q (.int (i + j)) H) ∨ (∃ i j, x = .str i ∧ y = .str j ∧ i.length + j.length ≤ sizeLine ∧ Q (.str (i ++ j)) H) ∨ rCatA K x y H Q ∨ rCat x y H Q
theorem or_add {X : Cx} : OpR X (binaryOp .Add) (rAddD X.K) := op_add.or (op_add_str.or (op_catA.or op_cat))
theorem os_add {K : PySem.W.Frag} {mg : Str → Option Value} : OpS K mg fAdd (rAddD K) := by
  intro W φ χ ψ μ σ H d e x y Q m rx ry p
  unfold fAdd at p
  split at p
  · exact .inl ⟨_, _, rx, ry, p _ _ _ .refl m rfl⟩
  · obtain ⟨c, p⟩ := p.ite
    exact .inr (.inl ⟨_, _, rx, ry, line_le c, p _ _ _ .refl m rfl⟩)
  · obtain ⟨c, p⟩ := p.ite
    obtain ⟨a1, xs, e1, h1, q1⟩ := rx
    obtain ⟨a2, ys, e2, h2, q2⟩ := ry
    refine .inr (.inr (.inl ⟨a1, a2, xs, ys, e1, e2, h1, h2, line_le (by rw [q1.length, q2.length]; exact c), fun z => ?_, fun z1 z2 => ?_, fun z1 z2 t ht => ?_⟩))
    · refine p _ _ _ .refl m ⟨a2, ys, rfl, h2, ?_⟩
      rw [q1.nil_iff.mp z]; exact q2
    · refine p _ _ _ .refl m ⟨a1, xs, rfl, h1, ?_⟩
      rw [q2.nil_iff.mp z2, List.append_nil]; exact q1
    · have g : Go φ H φ (upd H t (.tup (xs ++ ys))) := .new ht
      exact p _ _ _ g (m.new ht) ⟨t, _, rfl, .of upd_same, g.rpL (q1.append q2)⟩
  · obtain ⟨c, p⟩ := p.ite
    obtain ⟨a1, xs, e1, n1, h1, q1⟩ := rx
    obtain ⟨a2, ys, e2, n2, h2, q2⟩ := ry
    refine .inr (.inr (.inr ⟨a1, a2, xs, ys, e1, e2, h1, h2, line_le (by rw [q1.length, q2.length]; exact c), fun t ht => ?_⟩))
    have g : Go φ H φ (upd H t (.lst (xs ++ ys))) := .new ht
    exact p _ _ _ g (m.new ht) ⟨t, _, rfl, ⟨Gr.notin m ht, Gr.offχ m ht⟩, upd_same, g.rpL (q1.append q2)⟩
  · exact p.elim
def fSub : D → D → Mem → R D
  | .int i, .int j, μ => .ok (.int (i - j)) μ
  | _, _, _ => .stuck
theorem os_sub {K : PySem.W.Frag} {mg : Str → Option Value} : OpS K mg fSub (rI0 fun i j => .int (i - j)) := by
  intro W φ χ ψ μ σ H d e x y Q m rx ry p
  unfold fSub at p
  split at p
  · exact ⟨_, _, rx, ry, p _ _ _ .refl m rfl⟩
  · exact p.elim
def mulOk (i j : Int) : Bool := (decide (-(2 ^ 64) < i) && decide (i < 2 ^ 64)) || (decide (-(2 ^ 64) < j) && decide (j < 2 ^ 64))
def fMul : D → D → Mem → R D
  | .int i, .int j, μ => if mulOk i j = true then .ok (.int (i * j)) μ else .stuck
  | _, _, _ => .stuck
theorem os_mul {K : PySem.W.Frag} {mg : Str → Option Value} : OpS K mg fMul (rI CMul fun i j => .int (i * j)) := by
  intro W φ χ ψ μ σ H d e x y Q m rx ry p
  unfold fMul at p
  split at p
  · obtain ⟨c, p⟩ := p.ite
    refine ⟨_, _, rx, ry, ?_, p _ _ _ .refl m rfl⟩
    unfold mulOk at c
    simp only [Bool.or_eq_true, Bool.and_eq_true, decide_eq_true_eq] at c
    exact c
  · exact p.elim
def fDiv : D → D → Mem → R D
  | .int i, .int j, μ => if (decide (0 < j) && decide (j < 1073741824)) = true then .ok (.int (i / j)) μ else .stuck
  | _, _, _ => .stuck
theorem os_div {K : PySem.W.Frag} {mg : Str → Option Value} : OpS K mg fDiv (rI CDiv fun i j => .int (i / j)) := by
  intro W φ χ ψ μ σ H d e x y Q m rx ry p
  unfold fDiv at p
  split at p
  · obtain ⟨c, p⟩ := p.ite
    simp only [Bool.and_eq_true, decide_eq_true_eq] at c
    exact ⟨_, _, rx, ry, c, p _ _ _ .refl m rfl⟩
  · exact p.elim
def fMod : D → D → Mem → R D
  | .int i, .int j, μ => if decide (0 < j) = true then .ok (.int (i % j)) μ else .stuck
  | _, _, _ => .stuck
theorem os_mod {K : PySem.W.Frag} {mg : Str → Option Value} : OpS K mg fMod (rI (fun _ j => 0 < j) fun i j => .int (i % j)) := by
  intro W φ χ ψ μ σ H d e x y Q m rx ry p
  unfold fMod at p
  split at p
  · obtain ⟨c, p⟩ := p.ite
    exact ⟨_, _, rx, ry, of_decide_eq_true c, p _ _ _ .refl m rfl⟩
  · exact p.elim
section
variable {X : Cx} {W : WX} {a b : Expr} {ma mb : MV} {pos : Pos}
theorem ee_add (ha : EE X W a ma) (hb : EE X W b mb) : EE X W (.BinOp a .Add b pos) (mOp fAdd ma mb) := ee_op or_add os_add ha hb
theorem ee_sub (ha : EE X W a ma) (hb : EE X W b mb) : EE X W (.BinOp a .Sub b pos) (mOp fSub ma mb) := ee_op op_sub os_sub ha hb
theorem ee_mul (ha : EE X W a ma) (hb : EE X W b mb) : EE X W (.BinOp a .Mult b pos) (mOp fMul ma mb) := ee_op op_mul os_mul ha hb
theorem ee_div (ha : EE X W a ma) (hb : EE X W b mb) : EE X W (.BinOp a .FloorDiv b pos) (mOp fDiv ma mb) := ee_op op_fdiv os_div ha hb
theorem ee_mod (ha : EE X W a ma) (hb : EE X W b mb) : EE X W (.BinOp a .Mod b pos) (mOp fMod ma mb) := ee_op op_mod os_mod ha hb
end
def mNeg (m : MV) : MV := fun η μ => (m η μ).bind fun d μ1 => match d with
  | .int i => .ok (.int (-i)) μ1
  | _ => .stuck
theorem ee_neg {X : Cx} {W : WX} {a : Expr} {ma : MV} {pos : Pos} (ha : EE X W a ma) : EE X W (.UnaryOp .USub a pos) (mNeg ma) := (pe_un un_neg ha).imp fun σ H Q q => by
  obtain ⟨φ, χ, ψ, μ, η, rl, p⟩ := q
  refine rd_bind rl p fun φ1 H1 μ1 d x g1 r1 rx p1 => ?_
  split at p1
  · exact ⟨_, rx, p1 _ _ _ .refl r1.mem rfl⟩
  · exact p1.elim

/-! ### == and != -/
mutual
def toP (μ : Mem) : D → Option PyData
  | .non => some .none
  | .bl b => some (.bool b)
  | .int i => some (.int i)
  | .str s => some (.str s)
  | .tup l => (toPL μ l).map .tuple
  | .lst l => (toPL μ l).map .list
  | .fro l => (toPL μ l).map .list
  | .ptu l => (toPL μ l).map .tuple
  | .dic _ _ => none
  | .ptr k => none
def toPL (μ : Mem) : List D → Option (List PyData)
  | [] => some []
  | d :: l => match toP μ d, toPL μ l with
    | some x, some r => some (x :: r)
    | _, _ => none
end
def scalD : D → D → Bool
  | .non, .non => true | .non, .int _ => true | .int _, .non => true | .non, .bl _ => true | .bl _, .non => true | .non, .str _ => true | .str _, .non => true
  | .int _, .int _ => true | .bl _, .bl _ => true | .str _, .str _ => true
  | .int _, .str _ => true | .str _, .int _ => true | .bl _, .str _ => true | .str _, .bl _ => true
  | _, _ => false
/-- scalars of one kind and equal -/
def eqS : D → D → Bool
  | .non, .non => true
  | .bl a, .bl b => a == b
  | .int i, .int j => i == j
  | .str x, .str y => x == y
  | _, _ => false
/-- the answer of ==, where the model gives one here -/
def eqD (μ : Mem) (d e : D) : Option Bool :=
  if scalD d e = true then some (eqS d e) else
    match toP μ d, toP μ e with
    | some x, some y => if (SeqAt.shaped x && SeqAt.shaped y) = true then some (PyData.eqv x y) else none
    | _, _ => none
def fEq (d e : D) (μ : Mem) : R D := match eqD μ d e with
  | some b => .ok (.bl b) μ
  | none => .stuck
def fNe (d e : D) (μ : Mem) : R D := match eqD μ d e with
  | some b => .ok (.bl (!b)) μ
  | none => .stuck
section
variable {K : PySem.W.Frag} {mg : Str → Option Value} {φ χ ψ : List Addr} {H : Hp} {μ : Mem}
mutual
theorem toP_rp : ∀ {d : D} {v : V} {x : PyData}, Rp K φ χ H d v → toP μ d = some x → Dp K H v x
  | .non, _, _, h, e => by cases e; cases h; exact .non
  | .bl _, _, _, h, e => by cases e; cases h; exact .bl _
  | .int _, _, _, h, e => by cases e; cases h; exact .int _
  | .str _, _, _, h, e => by cases e; cases h; exact .str _
  | .tup l, _, _, h, e => by
    unfold toP at e
    obtain ⟨a, xs, rfl, hs, q⟩ := h
    cases hl : toPL μ l with
    | none => rw [hl] at e; cases e
    | some r => rw [hl] at e; cases e; exact .tup hs (toPL_rp q hl)
  | .lst l, _, _, h, e => by
    unfold toP at e
    obtain ⟨a, xs, rfl, _, hs, q⟩ := h
    cases hl : toPL μ l with
    | none => rw [hl] at e; cases e
    | some r => rw [hl] at e; cases e; exact .lst (.of hs) (toPL_rp q hl)
  | .fro l, _, _, h, e => by
    unfold toP at e
    obtain ⟨a, xs, rfl, hs, q⟩ := h
    cases hl : toPL μ l with
    | none => rw [hl] at e; cases e
    | some r => rw [hl] at e; cases e; exact .lst hs.seq (toPL_rp q hl)
  | .ptu l, _, _, h, e => by
    unfold toP at e
    obtain ⟨a, xs, rfl, ⟨o, hs, _⟩, q⟩ := h
    cases hl : toPL μ l with
    | none => rw [hl] at e; cases e
    | some r => rw [hl] at e; cases e; exact .tup (.inl (.inr ⟨o, hs⟩)) (toPL_rp q hl)
  | .dic _ _, _, _, _, e => by cases e
  | .ptr _, _, _, _, e => by cases e
theorem toPL_rp : ∀ {l : List D} {vs : List V} {xs : List PyData}, RpL K φ χ H l vs → toPL μ l = some xs → DpAll K H vs xs
  | [], _, _, h, e => by cases e; cases h; exact .nil
  | d :: l, _, _, h, e => by
    unfold toPL at e
    obtain ⟨x, r, rfl, h1, h2⟩ := h
    cases e1 : toP μ d with
    | none => rw [e1] at e; cases e
    | some y =>
      cases e2 : toPL μ l with
      | none => rw [e1, e2] at e; cases e
      | some ys => rw [e1, e2] at e; cases e; exact .cons (toP_rp h1 e1) (toPL_rp h2 e2)
end
theorem scal_rp {d e : D} {x y : V} (rx : Rp K φ χ H d x) (ry : Rp K φ χ H e y) (h : scalD d e = true) : scal x y = true ∧ decide (x = y) = eqS d e := by
  cases d <;> cases e <;> first | (cases h; done) | (cases rx; cases ry; refine ⟨rfl, ?_⟩; first | rfl | (simp [eqS, Bool.beq_eq_decide_eq]; done) | (simp only [eqS]; rw [Bool.eq_iff_iff]; simp))
theorem eq_rp {d e : D} {x y : V} {b : Bool} (rx : Rp K φ χ H d x) (ry : Rp K φ χ H e y) (h : eqD μ d e = some b) :
    (scal x y = true ∧ decide (x = y) = b) ∨ (∃ p q, Dp K H x p ∧ Dp K H y q ∧ SeqAt.shaped p = true ∧ SeqAt.shaped q = true ∧ PyData.eqv p q = b) := by
  unfold eqD at h
  split at h
  · rename_i hs
    obtain ⟨h1, h2⟩ := scal_rp rx ry hs
    cases h
    exact .inl ⟨h1, h2⟩
  · split at h
    · rename_i p q e1 e2
      split at h
      · rename_i hs
        cases h
        simp only [Bool.and_eq_true] at hs
        exact .inr ⟨p, q, toP_rp rx e1, toP_rp ry e2, hs.1, hs.2, rfl⟩
      · cases h
    · cases h
end
def rEqF (K : PySem.W.Frag) : R2 := fun x y H Q => rEq x y H Q ∨ rEqD K x y H Q
def rNeF (K : PySem.W.Frag) : R2 := fun x y H Q => rNe x y H Q ∨ rNeD K x y H Q
theorem os_eq {K : PySem.W.Frag} {mg : Str → Option Value} : OpS K mg fEq (rEqF K) := by
  intro W φ χ ψ μ σ H d e x y Q m rx ry p
  unfold fEq at p
  split at p
  · rename_i b hb
    rcases eq_rp rx ry hb with ⟨h1, h2⟩ | ⟨u, w, h1, h2, h3, h4, h5⟩
    · exact .inl ⟨h1, by rw [h2]; exact p _ _ _ .refl m rfl⟩
    · exact .inr ⟨u, w, h1, h2, h3, h4, by rw [h5]; exact p _ _ _ .refl m rfl⟩
  · exact p.elim
theorem os_ne {K : PySem.W.Frag} {mg : Str → Option Value} : OpS K mg fNe (rNeF K) := by
  intro W φ χ ψ μ σ H d e x y Q m rx ry p
  unfold fNe at p
  split at p
  · rename_i b hb
    rcases eq_rp rx ry hb with ⟨h1, h2⟩ | ⟨u, w, h1, h2, h3, h4, h5⟩
    · exact .inl ⟨h1, by rw [h2]; exact p _ _ _ .refl m rfl⟩
    · exact .inr ⟨u, w, h1, h2, h3, h4, by rw [h5]; exact p _ _ _ .refl m rfl⟩
  · exact p.elim
/-! ### order: ints, texts -/
def ltS (a b : Str) : Bool := decide (a.cps.toList < b.cps.toList)
def fCmp (pI : Int → Int → Bool) (pS : Str → Str → Bool) : D → D → Mem → R D
  | .int i, .int j, μ => .ok (.bl (pI i j)) μ
  | .str a, .str b, μ => .ok (.bl (pS a b)) μ
  | _, _, _ => .stuck
def fLt := fCmp (fun i j => decide (i < j)) ltS
def fLe := fCmp (fun i j => decide (i ≤ j)) fun a b => !ltS b a
def fGt := fCmp (fun i j => decide (j < i)) fun a b => ltS b a
def fGe := fCmp (fun i j => decide (j ≤ i)) fun a b => !ltS a b
def rCmp (pI : Int → Int → Bool) (pS : Str → Str → Bool) : R2 := fun x y H Q => (∃ i j, x = .int i ∧ y = .int j ∧ Q (.bl (pI i j)) H) ∨ (∃ i j, x = .str i ∧ y = .str j ∧ Q (.bl (pS i j)) H)
theorem os_cmp {K : PySem.W.Frag} {mg : Str → Option Value} {pI : Int → Int → Bool} {pS : Str → Str → Bool} : OpS K mg (fCmp pI pS) (rCmp pI pS) := by
  intro W φ χ ψ μ σ H d e x y Q m rx ry p
  unfold fCmp at p
  split at p
  · exact .inl ⟨_, _, rx, ry, p _ _ _ .refl m rfl⟩
  · exact .inr ⟨_, _, rx, ry, p _ _ _ .refl m rfl⟩
  · exact p.elim
theorem or_lt {X : Cx} : OpR X (compareOp .Lt) (rCmp (fun i j => decide (i < j)) ltS) := op_lt.or op_lt_str
theorem or_le {X : Cx} : OpR X (compareOp .LtE) (rCmp (fun i j => decide (i ≤ j)) fun a b => !ltS b a) := op_le.or op_le_str
theorem or_gt {X : Cx} : OpR X (compareOp .Gt) (rCmp (fun i j => decide (j < i)) fun a b => ltS b a) := op_gt.or op_gt_str
theorem or_ge {X : Cx} : OpR X (compareOp .GtE) (rCmp (fun i j => decide (j ≤ i)) fun a b => !ltS a b) := op_ge.or op_ge_str
/-! ### is None -/
def isN : D → Bool
  | .non => true
  | _ => false
def fIsN : D → D → Mem → R D
  | d, .non, μ => .ok (.bl (isN d)) μ
  | _, _, _ => .stuck
def fNotN : D → D → Mem → R D
  | d, .non, μ => .ok (.bl (!isN d)) μ
  | _, _, _ => .stuck
theorem isN_rp {K : PySem.W.Frag} {φ χ : List Addr} {H : Hp} {d : D} {x : V} (r : Rp K φ χ H d x) : decide (x = .non) = isN d := by
  cases d with
  | non => cases r; rfl
  | bl b => cases r; rfl
  | int b => cases r; rfl
  | str b => cases r; rfl
  | tup l => obtain ⟨a, xs, rfl, _⟩ := r; rfl
  | lst l => obtain ⟨a, xs, rfl, _⟩ := r; rfl
  | fro l => obtain ⟨a, xs, rfl, _⟩ := r; rfl
  | ptu l => obtain ⟨a, xs, rfl, _⟩ := r; rfl
  | dic ks l => obtain ⟨a, xs, rfl, _⟩ := r; rfl
  | ptr k => obtain ⟨a, _, rfl⟩ := r; rfl
theorem os_isN {K : PySem.W.Frag} {mg : Str → Option Value} : OpS K mg fIsN (fun x y H Q => y = .non ∧ Q (.bl (decide (x = .non))) H) := by
  intro W φ χ ψ μ σ H d e x y Q m rx ry p
  unfold fIsN at p
  split at p
  · exact ⟨ry, by rw [isN_rp rx]; exact p _ _ _ .refl m rfl⟩
  · exact p.elim
theorem os_notN {K : PySem.W.Frag} {mg : Str → Option Value} : OpS K mg fNotN (fun x y H Q => y = .non ∧ Q (.bl (!decide (x = .non))) H) := by
  intro W φ χ ψ μ σ H d e x y Q m rx ry p
  unfold fNotN at p
  split at p
  · exact ⟨ry, by rw [isN_rp rx]; exact p _ _ _ .refl m rfl⟩
  · exact p.elim
/-! ### in: a list or a tuple of flat things, a sign in a text, a key in a dict -/
def flatD : D → Bool
  | .non => true | .int _ => true | .str _ => true
  | _ => false
def inD (d : D) (l : List D) : Bool := l.any fun e => eqS e d
/-- x in l -/
def isIn (μ : Mem) (d e : D) : Option Bool := match e with
  | .str z => match d with
    | .str w => if w.cps.size = 1 then some (decide (w.cps.getD 0 0 ∈ z.cps.toList)) else none
    | _ => none
  | e => match aseq μ e with
    | some l => if (flatD d && l.all flatD) = true then some (inD d l) else none
    | none => none
def fIn (d e : D) (μ : Mem) : R D := match isIn μ d e with
  | some b => .ok (.bl b) μ
  | none => .stuck
def fNotIn (d e : D) (μ : Mem) : R D := match isIn μ d e with
  | some b => .ok (.bl (!b)) μ
  | none => .stuck
theorem flat_rp {K : PySem.W.Frag} {φ χ : List Addr} {H : Hp} {d : D} {x : V} (r : Rp K φ χ H d x) (h : flatD d = true) : flatV x = true := by
  cases d <;> first | (cases h; done) | (cases r; rfl)
theorem flats_rp {K : PySem.W.Frag} {φ χ : List Addr} {H : Hp} : ∀ {l : List D} {xs : List V}, RpL K φ χ H l xs → l.all flatD = true → xs.all flatV = true
  | [], _, r, _ => by cases r; rfl
  | d :: l, _, r, h => by
    obtain ⟨x, q, rfl, r1, r2⟩ := r
    simp only [List.all_cons, Bool.and_eq_true] at h ⊢
    exact ⟨flat_rp r1 h.1, flats_rp r2 h.2⟩
theorem eqS_rp {K : PySem.W.Frag} {φ χ : List Addr} {H : Hp} {d e : D} {x y : V} (rx : Rp K φ χ H d x) (ry : Rp K φ χ H e y) (hd : flatD d = true) (he : flatD e = true) : eqV x y = eqS d e := by
  cases d <;> first | (cases hd; done) | (cases e <;> first | (cases he; done) | (cases rx; cases ry; first | rfl | (simp [eqV, eqS]; done)))
theorem inD_rp {K : PySem.W.Frag} {φ χ : List Addr} {H : Hp} {d : D} {x : V} (rx : Rp K φ χ H d x) (hd : flatD d = true) : ∀ {l : List D} {xs : List V}, RpL K φ χ H l xs → l.all flatD = true → inV x xs = inD d l
  | [], _, r, _ => by cases r; rfl
  | e :: l, _, r, h => by
    obtain ⟨y, q, rfl, r1, r2⟩ := r
    simp only [List.all_cons, Bool.and_eq_true] at h
    have ih := inD_rp rx hd r2 h.2
    unfold inV inD at ih ⊢
    rw [List.any_cons, List.any_cons, ih, eqS_rp r1 rx h.1 hd]
def rInF (K : PySem.W.Frag) : R2 := fun x y H Q => rIn K false x y H Q ∨ (∃ (c : Nat) (z : Str), x = .str ⟨#[c]⟩ ∧ y = .str z ∧ Q (.bl (decide (c ∈ z.cps.toList))) H)
def rNotInF (K : PySem.W.Frag) : R2 := fun x y H Q => rIn K true x y H Q ∨ (∃ (c : Nat) (z : Str), x = .str ⟨#[c]⟩ ∧ y = .str z ∧ Q (.bl (!decide (c ∈ z.cps.toList))) H)
theorem or_in {X : Cx} : OpR X (compareOp .In) (rInF X.K) := op_in_seq.or op_in_sign
theorem or_notIn {X : Cx} : OpR X (compareOp .NotIn) (rNotInF X.K) := op_notIn_seq.or op_notIn_sign
theorem one_sign {w : Str} (h : w.cps.size = 1) : w = ⟨#[w.cps.getD 0 0]⟩ := by
  obtain ⟨⟨l⟩⟩ := w
  match l, h with
  | [c], _ => rfl
theorem isIn_rp {K : PySem.W.Frag} {mg : Str → Option Value} {φ χ ψ : List Addr} {H : Hp} {μ : Mem} {d e : D} {x y : V} {b : Bool} (m : MemOk K mg φ (χ ++ ψ) μ H) (rx : Rp K φ χ H d x) (ry : Rp K φ χ H e y) (h : isIn μ d e = some b) :
    (∃ p xs, y = .ref p ∧ (SqL K H p xs ∨ SqT K H p xs) ∧ flatV x = true ∧ xs.all flatV = true ∧ inV x xs = b) ∨ (∃ (c : Nat) (z : Str), x = .str ⟨#[c]⟩ ∧ y = .str z ∧ decide (c ∈ z.cps.toList) = b) := by
  by_cases hs : ∃ z, e = .str z
  · obtain ⟨z, rfl⟩ := hs
    unfold isIn at h
    simp only at h
    split at h
    · rename_i w
      split at h
      · rename_i h1
        cases h
        cases rx; cases ry
        exact .inr ⟨_, _, by rw [← one_sign h1], rfl, rfl⟩
      · cases h
    · cases h
  · have h' : (match aseq μ e with
      | some l => if (flatD d && l.all flatD) = true then some (inD d l) else none
      | none => none) = some b := by
      cases e with
      | str z => exact absurd ⟨z, rfl⟩ hs
      | _ => exact h
    split at h'
    · rename_i l hl
      split at h'
      · rename_i hf
        simp only [Bool.and_eq_true] at hf
        cases h'
        obtain ⟨a, xs, rfl, hq, q⟩ := aseq_rp m ry hl
        exact .inl ⟨a, xs, rfl, hq, flat_rp rx hf.1, flats_rp q hf.2, inD_rp rx hf.1 q hf.2⟩
      · cases h'
    · cases h'
theorem os_in {K : PySem.W.Frag} {mg : Str → Option Value} : OpS K mg fIn (rInF K) := by
  intro W φ χ ψ μ σ H d e x y Q m rx ry p
  unfold fIn at p
  split at p
  · rename_i b hb
    rcases isIn_rp m rx ry hb with ⟨a, xs, h1, h2, h3, h4, h5⟩ | ⟨c, z, h1, h2, h3⟩
    · exact .inl ⟨a, xs, h1, h2, h3, h4, by rw [if_neg Bool.false_ne_true, h5]; exact p _ _ _ .refl m rfl⟩
    · exact .inr ⟨c, z, h1, h2, by rw [h3]; exact p _ _ _ .refl m rfl⟩
  · exact p.elim
theorem os_notIn {K : PySem.W.Frag} {mg : Str → Option Value} : OpS K mg fNotIn (rNotInF K) := by
  intro W φ χ ψ μ σ H d e x y Q m rx ry p
  unfold fNotIn at p
  split at p
  · rename_i b hb
    rcases isIn_rp m rx ry hb with ⟨a, xs, h1, h2, h3, h4, h5⟩ | ⟨c, z, h1, h2, h3⟩
    · exact .inl ⟨a, xs, h1, h2, h3, h4, by rw [if_pos rfl, h5]; exact p _ _ _ .refl m rfl⟩
    · exact .inr ⟨c, z, h1, h2, by rw [h3]; exact p _ _ _ .refl m rfl⟩
  · exact p.elim
end FP
/-! Core3: truth, chains, subscripts, built-in calls, isinstance. -/
namespace FP
open PySem PySem.Spec L2
open PyProof.Rows hiding St

/-! ### and, or, not, if -/
def bAnd (a b : MB) : MB := fun η μ => (a η μ).bind fun x μ1 => if x = true then b η μ1 else .ok false μ1
def bOr (a b : MB) : MB := fun η μ => (a η μ).bind fun x μ1 => if x = true then .ok true μ1 else b η μ1
def bNot (a : MB) : MB := fun η μ => (a η μ).bind fun x μ1 => .ok (!x) μ1
def mOfB (a : MB) : MV := fun η μ => (a η μ).bind fun x μ1 => .ok (.bl x) μ1
def mIf (c : MB) (a b : MV) : MV := fun η μ => (c η μ).bind fun x μ1 => if x = true then a η μ1 else b η μ1
/-- and, or of values that are truths -/
def mAnd (a b : MV) : MV := fun η μ => (a η μ).bind fun d μ1 => match d with
  | .bl true => b η μ1
  | .bl false => .ok (.bl false) μ1
  | _ => .stuck
def mOr (a b : MV) : MV := fun η μ => (a η μ).bind fun d μ1 => match d with
  | .bl false => b η μ1
  | .bl true => .ok (.bl true) μ1
  | _ => .stuck
def mNot (a : MV) : MV := fun η μ => (a η μ).bind fun d μ1 => match d with
  | .bl b => .ok (.bl (!b)) μ1
  | _ => .stuck
section
variable {X : Cx} {W : WX} {a b c : Expr} {rest : List Expr} {pos : Pos} {ma mb mc : MV} {ta tb : MB}
theorem ww_and1 (h : TT' X W a ta) : WW X W (.BoolOp .And [a] pos) ta := pw_and1 h
theorem ww_or1 (h : TT' X W a ta) : WW X W (.BoolOp .Or [a] pos) ta := pw_or1 h
theorem ww_and (h : TT' X W a ta) (h2 : WW X W (.BoolOp .And (b :: rest) pos) tb) : WW X W (.BoolOp .And (a :: b :: rest) pos) (bAnd ta tb) := (pw_and h h2).imp fun σ H Q q => by
  obtain ⟨φ, χ, ψ, μ, η, rl, p⟩ := q
  refine rd_bind rl p fun φ1 H1 μ1 d x g1 r1 rx p1 => ?_
  cases rx
  cases d with
  | true => exact ⟨φ1, χ, ψ, μ1, η, r1, p1⟩
  | false => exact p1 _ _ _ .refl r1.mem rfl
theorem ww_or (h : TT' X W a ta) (h2 : WW X W (.BoolOp .Or (b :: rest) pos) tb) : WW X W (.BoolOp .Or (a :: b :: rest) pos) (bOr ta tb) := (pw_or h h2).imp fun σ H Q q => by
  obtain ⟨φ, χ, ψ, μ, η, rl, p⟩ := q
  refine rd_bind rl p fun φ1 H1 μ1 d x g1 r1 rx p1 => ?_
  cases rx
  cases d with
  | true => exact p1 _ _ _ .refl r1.mem rfl
  | false => exact ⟨φ1, χ, ψ, μ1, η, r1, p1⟩
theorem tt_of {e : Expr} (h : WW X W e ta) : TT' X W e ta := h.pt
theorem tt_not (h : TT' X W a ta) : TT' X W (.UnaryOp .Not a pos) (bNot ta) := (pt_not h).imp fun σ H Q q => by
  obtain ⟨φ, χ, ψ, μ, η, rl, p⟩ := q
  refine rd_bind rl p fun φ1 H1 μ1 d x g1 r1 rx p1 => ?_
  cases rx
  exact p1 _ _ _ .refl r1.mem rfl
theorem ee_if (h : TT' X W c ta) (h1 : EE X W a ma) (h2 : EE X W b mb) : EE X W (.IfExp c a b pos) (mIf ta ma mb) := (pe_ifExp h h1 h2).imp fun σ H Q q => by
  obtain ⟨φ, χ, ψ, μ, η, rl, p⟩ := q
  refine rd_bind rl p fun φ1 H1 μ1 d x g1 r1 rx p1 => ?_
  cases rx
  cases d with
  | true => exact ⟨φ1, χ, ψ, μ1, η, r1, p1⟩
  | false => exact ⟨φ1, χ, ψ, μ1, η, r1, p1⟩
theorem ee_one {op} (h : EE X W a ma) : EE X W (.BoolOp op [a] pos) ma := pe_one h
theorem ee_and (h : EE X W a ma) (h2 : EE X W (.BoolOp .And (b :: rest) pos) mb) : EE X W (.BoolOp .And (a :: b :: rest) pos) (mAnd ma mb) := (pe_and h h2).imp fun σ H Q q => by
  obtain ⟨φ, χ, ψ, μ, η, rl, p⟩ := q
  refine rd_bind rl p fun φ1 H1 μ1 d x g1 r1 rx p1 => ?_
  split at p1
  · exact ⟨true, rx, by rw [if_pos rfl]; exact ⟨φ1, χ, ψ, μ1, η, r1, p1⟩⟩
  · exact ⟨false, rx, by rw [if_neg Bool.false_ne_true]; exact p1 _ _ _ .refl r1.mem rfl⟩
  · exact p1.elim
theorem ee_or (h : EE X W a ma) (h2 : EE X W (.BoolOp .Or (b :: rest) pos) mb) : EE X W (.BoolOp .Or (a :: b :: rest) pos) (mOr ma mb) := (pe_or h h2).imp fun σ H Q q => by
  obtain ⟨φ, χ, ψ, μ, η, rl, p⟩ := q
  refine rd_bind rl p fun φ1 H1 μ1 d x g1 r1 rx p1 => ?_
  split at p1
  · exact ⟨false, rx, by rw [if_neg Bool.false_ne_true]; exact ⟨φ1, χ, ψ, μ1, η, r1, p1⟩⟩
  · exact ⟨true, rx, by rw [if_pos rfl]; exact p1 _ _ _ .refl r1.mem rfl⟩
  · exact p1.elim
theorem ee_not (h : EE X W a ma) : EE X W (.UnaryOp .Not a pos) (mNot ma) := (pe_not h).imp fun σ H Q q => by
  obtain ⟨φ, χ, ψ, μ, η, rl, p⟩ := q
  refine rd_bind rl p fun φ1 H1 μ1 d x g1 r1 rx p1 => ?_
  split at p1
  · exact ⟨_, rx, p1 _ _ _ .refl r1.mem rfl⟩
  · exact p1.elim
/-! ### a < b <= c -/
def mChain (f g : D → D → Mem → R D) (a b c : MV) : MV := fun η μ => (a η μ).bind fun x μ1 => (b η μ1).bind fun y μ2 => (f x y μ2).bind fun z μ3 => match z with
  | .bl true => (c η μ3).bind fun w μ4 => g y w μ4
  | .bl false => .ok (.bl false) μ3
  | _ => .stuck
theorem rd_chain {f g : D → D → Mem → R D} {r r' : R2} {σ : L2.St} {H : Hp} {Q : VK} (hr : OpS X.K X.mg f r) (hf : ∀ d e μ, f d e μ = .stuck ∨ ∃ b, f d e μ = .ok (.bl b) μ) (hr' : OpS X.K X.mg g r') (q : rd X.K X.mg W (rV X.K) (mChain f g ma mb mc) σ H Q) :
    tChain r r' (rd X.K X.mg W (rV X.K) ma) (rd X.K X.mg W (rV X.K) mb) (rd X.K X.mg W (rV X.K) mc) σ H Q := by
  obtain ⟨φ, χ, ψ, μ, η, rl, p⟩ := q
  refine rd_bind rl p fun φ1 H1 μ1 d x g1 r1 rx p1 => ?_
  refine rd_bind r1 p1 fun φ2 H2 μ2 e y g2 r2 ry p2 => ?_
  rcases hf d e μ2 with h | ⟨b, h⟩
  · rw [h] at p2; exact p2.elim
  · rw [h] at p2
    refine hr W φ2 χ ψ μ2 σ H2 d e x y _ r2.mem (g2.rp rx) ry ?_
    rw [h]
    intro v φ3 H3 g3 m3 rv
    refine ⟨b, rv, ?_⟩
    cases b with
    | true =>
      rw [if_pos rfl]
      refine rd_bind (r2.go g3 m3) (p2.go g3) fun φ4 H4 μ4 w z g4 r4 rz p4 => ?_
      exact hr' W φ4 χ ψ μ4 σ H4 e w y z Q r4.mem (g4.rp (g3.rp ry)) rz p4
    | false =>
      rw [if_neg Bool.false_ne_true]
      exact p2 _ φ3 H3 g3 m3 rfl
theorem ee_chain {op op' : CmpOp} {f g : D → D → Mem → R D} {r r' : R2} (ho : OpR X (compareOp op) r) (hr : OpS X.K X.mg f r) (hf : ∀ d e μ, f d e μ = .stuck ∨ ∃ b, f d e μ = .ok (.bl b) μ) (ho' : OpR X (compareOp op') r') (hr' : OpS X.K X.mg g r')
    (ha : EE X W a ma) (hb : EE X W b mb) (hc : EE X W c mc) (hm : lastMarks [op, op'] [b, c] = false := by with_unfolding_all rfl) : EE X W (.Compare a [op, op'] [b, c] pos) (mChain f g ma mb mc) :=
  (pe_chain ho ho' ha hb hc hm).imp fun _ _ _ q => rd_chain hr hf hr' q
theorem tt_chain {op op' : CmpOp} {f g : D → D → Mem → R D} {r r' : R2} (ho : OpR X (compareOp op) r) (hr : OpS X.K X.mg f r) (hf : ∀ d e μ, f d e μ = .stuck ∨ ∃ b, f d e μ = .ok (.bl b) μ) (ho' : OpR X (compareOp op') r') (hr' : OpS X.K X.mg g r')
    (ha : EE X W a ma) (hb : EE X W b mb) (hc : EE X W c mc) (hm : lastMarks [op, op'] [b, c] = false := by with_unfolding_all rfl) : TT' X W (.Compare a [op, op'] [b, c] pos) (mTst (mChain f g ma mb mc)) :=
  (pt_chain ho ho' ha hb hc hm).imp fun _ _ _ q => rd_chain hr hf hr' (rd_tst q)
theorem cmp_bl {pI : Int → Int → Bool} {pS : Str → Str → Bool} : ∀ d e μ, fCmp pI pS d e μ = .stuck ∨ ∃ b, fCmp pI pS d e μ = .ok (.bl b) μ := by
  intro d e μ
  unfold fCmp
  split
  · exact .inr ⟨_, rfl⟩
  · exact .inr ⟨_, rfl⟩
  · exact .inl rfl
end

/-! ### subscripts -/
/-- the place that an index names -/
def atD {α : Type} (l : List α) (i : Int) : Option α := if 0 ≤ i then l[i.toNat]? else if -(l.length : Int) ≤ i then l[(i + l.length).toNat]? else none
theorem atD_atI {α : Type} (l : List α) (i : Int) : atI l i = atD l i := by
  unfold atI ixN atD
  split
  · rename_i h
    split
    · rfl
    · rename_i h2
      symm
      exact List.getElem?_eq_none_iff.mpr (by omega)
  · split <;> rfl
theorem atD_rp {K : PySem.W.Frag} {φ ψ : List Addr} {H : Hp} {ds : List D} {xs : List V} {i : Int} {d : D} (r : RpL K φ ψ H ds xs) (h : atD ds i = some d) : ∃ v, atI xs i = some v ∧ Rp K φ ψ H d v := by
  rw [atD_atI]
  unfold atD at h ⊢
  rw [r.length]
  by_cases c : 0 ≤ i
  · rw [if_pos c] at h ⊢; exact r.get h
  · rw [if_neg c] at h ⊢
    by_cases c2 : -(ds.length : Int) ≤ i
    · rw [if_pos c2] at h ⊢; exact r.get h
    · rw [if_neg c2] at h; cases h
def fIx (o i : D) (μ : Mem) : R D := match i with
  | .int k => match o with
    | .str z => if z.length ≤ 10000000 then match atD z.cps.toList k with
      | some c => .ok (.str ⟨#[c]⟩) μ
      | none => .stuck else .stuck
    | o => match aseq μ o with
      | some l => match atD l k with
        | some d => .ok d μ
        | none => .stuck
      | none => .stuck
  | _ => .stuck
theorem os_ix {K : PySem.W.Frag} {mg : Str → Option Value} : OpS K mg fIx (rIx K) := by
  intro W φ χ ψ μ σ H d e x y Q m rx ry p
  unfold fIx at p
  split at p
  · rename_i k
    cases ry
    split at p
    · rename_i z
      cases rx
      obtain ⟨c, p⟩ := p.ite
      split at p
      · rename_i w hw
        exact .inr (.inr ⟨z, k, w, rfl, rfl, line_le c, by rw [atD_atI]; exact hw, p _ _ _ .refl m rfl⟩)
      · exact p.elim
    · split at p
      · rename_i l hl
        split at p
        · rename_i u hu
          obtain ⟨a, xs, rfl, hq, q⟩ := aseq_rp m rx hl
          obtain ⟨v, hv, rv⟩ := atD_rp q hu
          rcases hq with hq | hq
          · exact .inl ⟨a, xs, k, v, rfl, rfl, hq, hv, p _ _ _ .refl m rv⟩
          · exact .inr (.inl ⟨a, xs, k, v, rfl, rfl, hq, hv, p _ _ _ .refl m rv⟩)
        · exact p.elim
      · exact p.elim
  · exact p.elim
theorem ee_ix {X : Cx} {W : WX} {a b : Expr} {ma mb : MV} {pos : Pos} (ha : EE X W a ma) (hb : EE X W b mb) (hs : PlainIx b := by intro _ _; rfl) : EE X W (.Subscript a b pos) (mOp fIx ma mb) := (pe_ix ix_seq ha hb hs).imp fun _ _ _ q => rd_op os_ix q
/-! slices -/
def cutD {α : Type} (l : List α) (lo hi : Option Int) : List α := (l.drop (HT.sIx l.length 0 lo)).take (HT.sIx l.length l.length hi - HT.sIx l.length 0 lo)
abbrev MO := Env' → Mem → R (Option Int)
def oNone : MO := fun _ μ => .ok none μ
def oSome (m : MV) : MO := fun η μ => (m η μ).bind fun d μ1 => match d with
  | .int i => .ok (some i) μ1
  | _ => .stuck
abbrev rO : List Addr → List Addr → List Addr → Hp → Option Int → Option Int → Prop := fun _ _ _ _ a b => a = b
abbrev OO (X : Cx) (W : WX) (e : Option Expr) (m : MO) : Prop := PO X e (rd X.K X.mg W rO m)
theorem _root_.L2.PO.imp {X : Cx} {e : Option Expr} {t u : TO} (h : PO X e t) (f : ∀ σ H Q, u σ H Q → t σ H Q) : PO X e u := ⟨fun pins s σ H Q I q => h.run pins s σ H Q I (f σ H Q q)⟩
theorem oo_none {X : Cx} {W : WX} : OO X W none oNone := po_none.imp fun σ H Q q => by
  obtain ⟨φ, χ, ψ, μ, η, rl, p⟩ := q
  exact p _ _ _ .refl rl.mem rfl
theorem oo_some {X : Cx} {W : WX} {e : Expr} {m : MV} (h : EE X W e m) : OO X W (some e) (oSome m) := (po_some h).imp fun σ H Q q => by
  obtain ⟨φ, χ, ψ, μ, η, rl, p⟩ := q
  refine rd_bind rl p fun φ1 H1 μ1 d x g1 r1 rx p1 => ?_
  split at p1
  · exact ⟨_, rx, p1 _ _ _ .refl r1.mem rfl⟩
  · exact p1.elim
def fSl (o : D) (lo hi : Option Int) (μ : Mem) : R D := match o with
  | .str z => if z.length ≤ 10000000 then .ok (.str (cutS z lo hi)) μ else .stuck
  | .tup l => .ok (.tup (cutD l lo hi)) μ
  | .ptu l => .ok (.tup (cutD l lo hi)) μ
  | o => match lseq μ o with
    | some l => .ok (.lst (cutD l lo hi)) μ
    | none => .stuck
def mSl (a : MV) (lo hi : MO) : MV := fun η μ => (a η μ).bind fun o μ1 => (lo η μ1).bind fun l μ2 => (hi η μ2).bind fun h μ3 => fSl o l h μ3
theorem cut_rp {K : PySem.W.Frag} {φ ψ : List Addr} {H : Hp} {ds : List D} {xs : List V} {lo hi : Option Int} (r : RpL K φ ψ H ds xs) : RpL K φ ψ H (cutD ds lo hi) (cutV xs lo hi) := by
  unfold cutD cutV
  rw [r.length]
  exact (r.drop _).take _
def rSlF (K : PySem.W.Frag) : V → Option Int → Option Int → Hp → VK → Prop := fun x lo hi H Q => rSlS x lo hi H Q ∨ rSlA K x lo hi H Q ∨ rSlL K x lo hi H Q
theorem sl_any {X : Cx} : SlR X (rSlF X.K) := sl_str.or (sl_tupA.or sl_list)
theorem fSl_rp {K : PySem.W.Frag} {mg : Str → Option Value} {W : WX} {σ : L2.St} {φ χ ψ : List Addr} {H : Hp} {μ : Mem} {o : D} {x : V} {lo hi : Option Int} {Q : VK} (m : MemOk K mg φ (χ ++ ψ) μ H) (rx : Rp K φ χ H o x) (p : Post K mg W (rV K) σ φ χ ψ H (fSl o lo hi μ) Q) : rSlF K x lo hi H Q := by
  unfold fSl at p
  split at p
  · rename_i z
    cases rx
    obtain ⟨c, p⟩ := p.ite
    exact .inl ⟨z, rfl, line_le c, p _ _ _ .refl m rfl⟩
  · rename_i l
    obtain ⟨a, xs, rfl, hq, q⟩ := rx
    refine .inr (.inl ⟨a, xs, rfl, hq, fun w => ?_, fun _ t ht => ?_⟩)
    · refine p _ _ _ .refl m ⟨a, xs, rfl, hq, ?_⟩
      have e : cutV xs lo hi = xs := by
        unfold cutV
        rw [w.1, w.2, List.drop_zero, Nat.sub_zero, List.take_length]
      rw [← e]; exact cut_rp q
    · have g : Go φ H φ (upd H t (.tup (cutV xs lo hi))) := .new ht
      exact p _ _ _ g (m.new ht) ⟨t, _, rfl, .of upd_same, g.rpL (cut_rp q)⟩
  · rename_i l
    obtain ⟨a, xs, rfl, ⟨o, hq0, _⟩, q⟩ := rx
    have hq : SqT K H a xs := .inl (.inr ⟨o, hq0⟩)
    refine .inr (.inl ⟨a, xs, rfl, hq, fun w => ?_, fun _ t ht => ?_⟩)
    · refine p _ _ _ .refl m ⟨a, xs, rfl, hq, ?_⟩
      have e : cutV xs lo hi = xs := by
        unfold cutV
        rw [w.1, w.2, List.drop_zero, Nat.sub_zero, List.take_length]
      rw [← e]; exact cut_rp q
    · have g : Go φ H φ (upd H t (.tup (cutV xs lo hi))) := .new ht
      exact p _ _ _ g (m.new ht) ⟨t, _, rfl, .of upd_same, g.rpL (cut_rp q)⟩
  · split at p
    · rename_i l hl
      obtain ⟨a, xs, rfl, hq, q⟩ := lseq_rp m rx hl
      refine .inr (.inr ⟨a, xs, rfl, hq, fun t ht => ?_⟩)
      have g : Go φ H φ (upd H t (.lst (cutV xs lo hi))) := .new ht
      exact p _ _ _ g (m.new ht) ⟨t, _, rfl, ⟨Gr.notin m ht, Gr.offχ m ht⟩, upd_same, g.rpL (cut_rp q)⟩
    · exact p.elim
theorem ee_sl {X : Cx} {W : WX} {a : Expr} {lo hi : Option Expr} {ma : MV} {ml mh : MO} {p2 pos : Pos} (ha : EE X W a ma) (hl : OO X W lo ml) (hh : OO X W hi mh) : EE X W (.Subscript a (.Slice lo hi none p2) pos) (mSl ma ml mh) := (pe_slice sl_any ha hl hh).imp fun σ H Q q => by
  obtain ⟨φ, χ, ψ, μ, η, rl, p⟩ := q
  refine rd_bind rl p fun φ1 H1 μ1 d x g1 r1 rx p1 => ?_
  refine rd_bind r1 p1 fun φ2 H2 μ2 l l' g2 r2 rl p2 => ?_
  cases rl
  refine rd_bind r2 p2 fun φ3 H3 μ3 h h' g3 r3 rh p3 => ?_
  cases rh
  exact fSl_rp r3.mem (g3.rp (g2.rp rx)) p3

/-! ### calls of built-ins -/
def mCall (f : List D → Mem → R D) (ms : ML) : MV := fun η μ => (ms η μ).bind fun ds μ1 => f ds μ1
def CallS (K : PySem.W.Frag) (mg : Str → Option Value) (f : List D → Mem → R D) (r : List V → Hp → VK → Prop) : Prop :=
  ∀ (W : WX) (φ χ ψ : List Addr) (μ : Mem) (σ : L2.St) (H : Hp) (ds : List D) (xs : List V) (Q : VK), MemOk K mg φ (χ ++ ψ) μ H → RpL K φ χ H ds xs → Post K mg W (rV K) σ φ χ ψ H (f ds μ) Q → r xs H Q
theorem rd_call {K : PySem.W.Frag} {mg : Str → Option Value} {W : WX} {f : List D → Mem → R D} {r : List V → Hp → VK → Prop} {ms : ML} {σ : L2.St} {H : Hp} {Q : VK} (hr : CallS K mg f r) (q : rd K mg W (rV K) (mCall f ms) σ H Q) : tCB r (rd K mg W (rL K) ms) σ H Q := by
  obtain ⟨φ, χ, ψ, μ, η, rl, p⟩ := q
  refine rd_bind rl p fun φ1 H1 μ1 d x g1 r1 rx p1 => ?_
  exact hr W φ1 χ ψ μ1 σ H1 d x Q r1.mem rx p1
section
variable {X : Cx} {W : WX} {f : List D → Mem → R D} {r : List V → Hp → VK → Prop} {e : Expr} {es : List Expr} {ms : ML} {x : Str} {id T : String} {p pos : Pos}
theorem ee_callB (hc : CallR X (.builtin id) r) (hr : CallS X.K X.mg f r) (hm : X.mg x = none) (ha : AA X W (e :: es) ms) (hv : bootBuiltins x = some (.builtin id) := by decide +kernel) (hg : Gl X x := by rfl) (hn : x ≠ "__name__" := by decide) (hdb : (x == ("__debug__" : Str)) = false := by decide)
    (he : starEach (e :: es) X.env = (false, eval e X.env) :: starEach es X.env := by rfl) (hpl : (backTo pos (starEach es X.env)).any (·.1) = false := by rfl) : EE X W (.Call (.Name x p) (e :: es) [] pos) (mCall f ms) :=
  (pe_callB hc hg hm hv ha hn hdb he hpl).imp fun _ _ _ q => rd_call hr q
theorem ee_callTy (hc : CallR X (.type T) r) (hr : CallS X.K X.mg f r) (hm : X.mg x = none) (ha : AA X W (e :: es) ms) (hv : bootBuiltins x = some (.type T) := by decide +kernel) (hg : Gl X x := by rfl) (hn : x ≠ "__name__" := by decide) (hdb : (x == ("__debug__" : Str)) = false := by decide)
    (he : starEach (e :: es) X.env = (false, eval e X.env) :: starEach es X.env := by rfl) (hpl : (backTo pos (starEach es X.env)).any (·.1) = false := by rfl) : EE X W (.Call (.Name x p) (e :: es) [] pos) (mCall f ms) :=
  (pe_callTy hc hg hm hv ha hn hdb he hpl).imp fun _ _ _ q => rd_call hr q
end
section
variable {K : PySem.W.Frag} {mg : Str → Option Value}
theorem RpL.one {φ ψ : List Addr} {H : Hp} {d : D} {xs : List V} (r : RpL K φ ψ H [d] xs) : ∃ x, xs = [x] ∧ Rp K φ ψ H d x := by
  obtain ⟨x, q, rfl, h, rfl⟩ := r
  exact ⟨x, rfl, h⟩
theorem RpL.two {φ ψ : List Addr} {H : Hp} {d e : D} {xs : List V} (r : RpL K φ ψ H [d, e] xs) : ∃ x y, xs = [x, y] ∧ Rp K φ ψ H d x ∧ Rp K φ ψ H e y := by
  obtain ⟨x, q, rfl, h, r⟩ := r
  obtain ⟨y, rfl, h2⟩ := r.one
  exact ⟨x, y, rfl, h, h2⟩
/-- len -/
def fLen (ds : List D) (μ : Mem) : R D := match ds with
  | [.str z] => if z.length ≤ 10000000 then .ok (.int (z.length : Nat)) μ else .stuck
  | [d] => match aseq μ d with
    | some l => .ok (.int (l.length : Nat)) μ
    | none => .stuck
  | _ => .stuck
theorem cs_len : CallS K mg fLen (fun xs H Q => ∃ x n, xs = [x] ∧ LenV K x H n ∧ Q (.int n) H) := by
  intro W φ χ ψ μ σ H ds xs Q m r p
  unfold fLen at p
  split at p
  · obtain ⟨c, p⟩ := p.ite
    obtain ⟨x, rfl, rx⟩ := r.one
    cases rx
    exact ⟨_, _, rfl, ⟨line_le c, rfl⟩, p _ _ _ .refl m rfl⟩
  · split at p
    · rename_i l hl
      obtain ⟨x, rfl, rx⟩ := r.one
      obtain ⟨a, ys, rfl, hq, q⟩ := aseq_rp m rx hl
      refine ⟨_, l.length, rfl, ?_, p _ _ _ .refl m rfl⟩
      rcases hq with hq | hq
      · exact .inl ⟨ys, hq, q.length.symm⟩
      · exact .inr ⟨ys, hq, q.length.symm⟩
    · exact p.elim
  · exact p.elim
/-- abs -/
def fAbs (ds : List D) (μ : Mem) : R D := match ds with
  | [.int i] => .ok (.int (if i < 0 then -i else i)) μ
  | _ => .stuck
theorem cs_abs : CallS K mg fAbs (fun xs H Q => ∃ i, xs = [.int i] ∧ Q (.int (if i < 0 then -i else i)) H) := by
  intro W φ χ ψ μ σ H ds xs Q m r p
  unfold fAbs at p
  split at p
  · obtain ⟨x, rfl, rx⟩ := r.one
    cases rx
    exact ⟨_, rfl, p _ _ _ .refl m rfl⟩
  · exact p.elim
/-- int of an int, of a truth -/
def fInt (ds : List D) (μ : Mem) : R D := match ds with
  | [.int i] => .ok (.int i) μ
  | [.bl b] => .ok (.int (if b then 1 else 0)) μ
  | _ => .stuck
theorem cs_int : CallS K mg fInt (fun xs H Q => (∃ i, xs = [.int i] ∧ Q (.int i) H) ∨ ∃ k, xs = [.bl k] ∧ Q (.int (if k then 1 else 0)) H) := by
  intro W φ χ ψ μ σ H ds xs Q m r p
  unfold fInt at p
  split at p
  · obtain ⟨x, rfl, rx⟩ := r.one
    cases rx
    exact .inl ⟨_, rfl, p _ _ _ .refl m rfl⟩
  · obtain ⟨x, rfl, rx⟩ := r.one
    cases rx
    exact .inr ⟨_, rfl, p _ _ _ .refl m rfl⟩
  · exact p.elim
/-- tuple of a list, of a tuple -/
def fTuple (ds : List D) (μ : Mem) : R D := match ds with
  | [d] => match aseq μ d with
    | some l => .ok (.tup l) μ
    | none => .stuck
  | _ => .stuck
theorem cs_tuple : CallS K mg fTuple (fun xs H Q => ∃ p ys, xs = [.ref p] ∧ ((SqL K H p ys ∧ ∀ l, H l = none → Q (.ref l) (upd H l (.tup ys))) ∨ (SqT K H p ys ∧ Q (.ref p) H))) := by
  intro W φ χ ψ μ σ H ds xs Q m r p
  unfold fTuple at p
  split at p
  · split at p
    · rename_i l hl
      obtain ⟨x, rfl, rx⟩ := r.one
      obtain ⟨a, ys, rfl, hq, q⟩ := aseq_rp m rx hl
      refine ⟨a, ys, rfl, ?_⟩
      rcases hq with hq | hq
      · refine .inl ⟨hq, fun t ht => ?_⟩
        have g : Go φ H φ (upd H t (.tup ys)) := .new ht
        exact p _ _ _ g (m.new ht) ⟨t, _, rfl, .of upd_same, g.rpL q⟩
      · exact .inr ⟨hq, p _ _ _ .refl m ⟨a, ys, rfl, hq, q⟩⟩
    · exact p.elim
  · exact p.elim
/-- list of a list, of a tuple -/
def fList (ds : List D) (μ : Mem) : R D := match ds with
  | [d] => match aseq μ d with
    | some l => .ok (.lst l) μ
    | none => .stuck
  | _ => .stuck
theorem cs_list : CallS K mg fList (fun xs H Q => ∃ p ys, xs = [.ref p] ∧ (SqL K H p ys ∨ SqT K H p ys) ∧ ∀ l, H l = none → Q (.ref l) (upd H l (.lst ys))) := by
  intro W φ χ ψ μ σ H ds xs Q m r p
  unfold fList at p
  split at p
  · split at p
    · rename_i l hl
      obtain ⟨x, rfl, rx⟩ := r.one
      obtain ⟨a, ys, rfl, hq, q⟩ := aseq_rp m rx hl
      refine ⟨a, ys, rfl, hq, fun t ht => ?_⟩
      have g : Go φ H φ (upd H t (.lst ys)) := .new ht
      exact p _ _ _ g (m.new ht) ⟨t, _, rfl, ⟨Gr.notin m ht, Gr.offχ m ht⟩, upd_same, g.rpL q⟩
    · exact p.elim
  · exact p.elim
/-- all, any of a list of truths -/
def allBl : List D → Option (List Bool)
  | [] => some []
  | .bl b :: l => (allBl l).map (b :: ·)
  | _ => none
theorem allBl_rp {φ ψ : List Addr} {H : Hp} : ∀ {ds : List D} {xs : List V} {bs : List Bool}, RpL K φ ψ H ds xs → allBl ds = some bs → xs = bs.map V.bl
  | [], _, _, r, h => by cases h; cases r; rfl
  | .bl b :: l, _, _, r, h => by
    obtain ⟨x, q, rfl, r1, r2⟩ := r
    unfold allBl at h
    cases hl : allBl l with
    | none => rw [hl] at h; cases h
    | some bs =>
      rw [hl] at h
      cases h
      cases r1
      rw [allBl_rp r2 hl]
      rfl
  | .non :: _, _, _, _, h => by cases h
  | .int _ :: _, _, _, _, h => by cases h
  | .str _ :: _, _, _, _, h => by cases h
  | .tup _ :: _, _, _, _, h => by cases h
  | .lst _ :: _, _, _, _, h => by cases h
  | .fro _ :: _, _, _, _, h => by cases h
  | .ptu _ :: _, _, _, _, h => by cases h
  | .dic _ _ :: _, _, _, _, h => by cases h
  | .ptr _ :: _, _, _, _, h => by cases h
def fAll (ds : List D) (μ : Mem) : R D := match ds with
  | [d] => match lseq μ d with
    | some l => match allBl l with
      | some bs => .ok (.bl (bs.all id)) μ
      | none => .stuck
    | none => .stuck
  | _ => .stuck
def fAny (ds : List D) (μ : Mem) : R D := match ds with
  | [d] => match lseq μ d with
    | some l => match allBl l with
      | some bs => .ok (.bl (bs.any id)) μ
      | none => .stuck
    | none => .stuck
  | _ => .stuck
theorem cs_all : CallS K mg fAll (rAll K) := by
  intro W φ χ ψ μ σ H ds xs Q m r p
  unfold fAll at p
  split at p
  · split at p
    · rename_i l hl
      split at p
      · rename_i bs hb
        obtain ⟨x, rfl, rx⟩ := r.one
        obtain ⟨a, ys, rfl, hq, q⟩ := lseq_rp m rx hl
        have e := allBl_rp q hb
        subst e
        exact ⟨a, bs, rfl, hq, p _ _ _ .refl m rfl⟩
      · exact p.elim
    · exact p.elim
  · exact p.elim
theorem cs_any : CallS K mg fAny (rAny K) := by
  intro W φ χ ψ μ σ H ds xs Q m r p
  unfold fAny at p
  split at p
  · split at p
    · rename_i l hl
      split at p
      · rename_i bs hb
        obtain ⟨x, rfl, rx⟩ := r.one
        obtain ⟨a, ys, rfl, hq, q⟩ := lseq_rp m rx hl
        have e := allBl_rp q hb
        subst e
        exact ⟨a, bs, rfl, hq, p _ _ _ .refl m rfl⟩
      · exact p.elim
    · exact p.elim
  · exact p.elim
end
/-! ### isinstance -/
inductive Ty where
  | none | bool | int | str | tuple | list | dict
  deriving DecidableEq
def Ty.name : Ty → String
  | .none => "NoneType" | .bool => "bool" | .int => "int" | .str => "str" | .tuple => "tuple" | .list => "list" | .dict => "dict"
def isi (a b : Ty) : Bool := decide (a = b) || (decide (a = .bool) && decide (b = .int))
theorem kitB_isi (a b : Ty) : kitB a.name b.name = some (isi a b) := by cases a <;> cases b <;> decide +kernel
def tyD (μ : Mem) : D → Option Ty
  | .non => some .none
  | .bl _ => some .bool
  | .int _ => some .int
  | .str _ => some .str
  | .tup _ => some .tuple
  | .lst _ => some .list
  | .fro _ => some .list
  | .ptu _ => some .tuple
  | .dic _ _ => some .dict
  | .ptr k => match μ[k]? with
    | some (.lst _) => some .list
    | some (.dic _ _) => some .dict
    | _ => none
def mIsi (m : MV) (t : Ty) : MV := fun η μ => (m η μ).bind fun d μ1 => match tyD μ1 d with
  | some u => .ok (.bl (isi u t)) μ1
  | none => .stuck
theorem tyD_rp {K : PySem.W.Frag} {mg : Str → Option Value} {φ χ ψ : List Addr} {H : Hp} {μ : Mem} {d : D} {x : V} {t : Ty} (m : MemOk K mg φ (χ ++ ψ) μ H) (r : Rp K φ χ H d x) (h : tyD μ d = some t) : TyX K H x (.type t.name) := by
  cases d with
  | non => cases h; cases r; exact .base .non
  | bl b => cases h; cases r; exact .base (.bl _)
  | int b => cases h; cases r; exact .base (.int _)
  | str b => cases h; cases r; exact .base (.str _)
  | tup l =>
    cases h
    obtain ⟨a, xs, rfl, (hq | ⟨o, hq⟩) | ⟨o, its, n, h1, h2, h3⟩, _⟩ := r
    · exact .base (.tup hq)
    · exact .fTuple hq
    · exact .kTuple h1 h2
  | lst l =>
    cases h
    obtain ⟨a, xs, rfl, _, hq, _⟩ := r
    exact .base (.lst hq)
  | fro l =>
    cases h
    obtain ⟨a, xs, rfl, ⟨o, hq⟩ | ⟨o, its, n, h1, h2, h3⟩, _⟩ := r
    · exact .base (.frz hq)
    · exact .kList h1 h2
  | ptu l =>
    cases h
    obtain ⟨a, xs, rfl, ⟨o, hq, _⟩, _⟩ := r
    exact .fTuple hq
  | dic ks l =>
    cases h
    obtain ⟨a, xs, rfl, _, hq, _⟩ := r
    exact .base (.dK hq)
  | ptr k =>
    unfold tyD at h
    simp only at h
    obtain ⟨a, ha, rfl⟩ := r
    split at h
    · rename_i l hl
      cases h
      obtain ⟨xs, e1, q⟩ := m.ats k _ a hl ha
      exact .base (.lst e1)
    · rename_i ks l hl
      cases h
      obtain ⟨xs, e1, q⟩ := m.ats k _ a hl ha
      exact .base (.dK e1)
    · cases h
theorem ee_isi {X : Cx} {W : WX} {e : Expr} {m : MV} {p p2 pos : Pos} {T : Str} (t : Ty) (h : EE X W e m) (hm : X.mg "isinstance" = none) (hmT : X.mg T = none) (hvT : bootBuiltins T = some (.type t.name) := by decide +kernel)
    (hv : bootBuiltins "isinstance" = some (.builtin "isinstance") := by decide +kernel) (hg : Gl X "isinstance" := by rfl) (hgT : Gl X T := by rfl) (hnT : T ≠ "__name__" := by decide) (hdT : (T == ("__debug__" : Str)) = false := by decide)
    (he : starEach (e :: [.Name T p2]) X.env = (false, eval e X.env) :: starEach [.Name T p2] X.env := by rfl) (he2 : starEach [.Name T p2] X.env = (false, eval (.Name T p2) X.env) :: starEach [] X.env := by rfl)
    (hpl : (backTo pos (starEach [.Name T p2] X.env)).any (·.1) = false := by rfl) : EE X W (.Call (.Name "isinstance" p) [e, .Name T p2] [] pos) (mIsi m t) :=
  (pe_callB call_isi hg hm hv (pa_cons h (pa_cons (pe_bltn (v := .ty t.name) hgT hmT hvT rfl hnT hdT) pa_nil he2) he) (by decide) (by decide) he hpl).imp fun σ H Q q => by
    obtain ⟨φ, χ, ψ, μ, η, rl, p⟩ := q
    refine rd_bind rl p fun φ1 H1 μ1 d x g1 r1 rx p1 => ?_
    split at p1
    · rename_i u hu
      exact ⟨x, .ty t.name, .type u.name, .type t.name, isi u t, rfl, .ty _, tyD_rp r1.mem rx hu, kit_ty (kitB_isi u t), p1 _ _ _ .refl r1.mem rfl⟩
    · exact p1.elim
end FP
/-! Core4: what is walked, targets, comprehensions. -/
namespace FP
open PySem PySem.Spec L2
open PyProof.Rows hiding St

/-! ### what is walked -/
/-- an iterator J gives the items ds; what is walked is no list that may change -/
inductive ItN (K : PySem.W.Frag) (φ χ : List Addr) (H : Hp) : It → List D → Prop where
  | fro {a : Addr} {xs : List V} {ds : List D} (h : FzL K H a xs) (r : RpL K φ χ H ds xs) : ItN K φ χ H (Itl K a) ds
  | tup {a : Addr} {xs : List V} {ds : List D} (h : SqT K H a xs) (r : RpL K φ χ H ds xs) : ItN K φ χ H (Itt K a) ds
  | str (z : Str) : ItN K φ χ H (Its z) (z.cps.toList.map fun c => .str ⟨#[c]⟩)
  | rng (lo : Int) (n : Nat) : ItN K φ χ H (Itr lo n) ((List.range n).map fun i => .int (lo + (i : Nat)))
  | rngC (lo c : Int) (n : Nat) : ItN K φ χ H (Itc lo c n) ((List.range n).map fun i => .int (lo + (i : Nat) * c))
/-- .. or a list at an address that is none of φ, χ and ψ -/
inductive ItB (K : PySem.W.Frag) (φ χ ψ : List Addr) (H : Hp) : It → List D → Prop where
  | lst {a : Addr} {xs : List V} {ds : List D} (n : a ∉ φ) (n2 : a ∉ χ) (n3 : a ∉ ψ) (h : H a = some (.lst xs)) (r : RpL K φ χ H ds xs) : ItB K φ χ ψ H (Itl K a) ds
  | of {J : It} {ds : List D} (h : ItN K φ χ H J ds) : ItB K φ χ ψ H J ds
abbrev MI := Env' → Mem → R (List D)
def rdI (K : PySem.W.Frag) (mg : Str → Option Value) (W : WX) (m : MI) : TI := rd K mg W (fun φ χ _ H ds J => ItB K φ χ [] H J ds) m
abbrev II (X : Cx) (W : WX) (tg it : Expr) (m : MI) : Prop := PI X tg it (rdI X.K X.mg W m)
/-- the items of a value -/
def itemsD : D → Option (List D)
  | .lst l => some l
  | .fro l => some l
  | .tup l => some l
  | .ptu l => some l
  | .str z => some (z.cps.toList.map fun c => .str ⟨#[c]⟩)
  | _ => none
def iOf (m : MV) : MI := fun η μ => (m η μ).bind fun d μ1 => match itemsD d with
  | some l => .ok l μ1
  | none => .stuck
theorem ii_of {X : Cx} {W : WX} {tg e : Expr} {m : MV} (h : EE X W e m) : II X W tg e (iOf m) :=
  (((pi_list (tg := tg) h).or (pi_tup h)).or (pi_str h)).imp fun σ H Q q => by
    obtain ⟨φ, χ, ψ, μ, η, rl, p⟩ := q
    cases hm : m η μ with
    | stuck => unfold iOf at p; rw [hm] at p; exact p.elim
    | exc x μ1 => unfold iOf at p; rw [hm] at p; exact .inl (.inl ⟨φ, χ, ψ, μ, η, rl, by rw [hm]; exact p⟩)
    | ok d μ1 =>
      unfold iOf at p
      rw [hm] at p
      simp only [R.bind_ok] at p
      cases hd : itemsD d with
      | none => rw [hd] at p; exact p.elim
      | some l =>
        rw [hd] at p
        simp only at p
        cases d with
        | lst l' =>
          cases hd
          refine .inl (.inl ⟨φ, χ, ψ, μ, η, rl, ?_⟩)
          rw [hm]
          rintro v φ' H' g m' ⟨a, xs, rfl, n, h, r⟩
          exact ⟨a, rfl, ⟨xs, .of h⟩, p _ _ _ g m' (.lst n.1 n.2 (fun z => nomatch z) h r)⟩
        | fro l' =>
          cases hd
          refine .inl (.inl ⟨φ, χ, ψ, μ, η, rl, ?_⟩)
          rw [hm]
          rintro v φ' H' g m' ⟨a, xs, rfl, h, r⟩
          exact ⟨a, rfl, ⟨xs, h.seq⟩, p _ _ _ g m' (.of (.fro h r))⟩
        | tup l' =>
          cases hd
          refine .inl (.inr ⟨φ, χ, ψ, μ, η, rl, ?_⟩)
          rw [hm]
          rintro v φ' H' g m' ⟨a, xs, rfl, h, r⟩
          exact ⟨a, rfl, ⟨xs, h⟩, p _ _ _ g m' (.of (.tup h r))⟩
        | ptu l' =>
          cases hd
          refine .inl (.inr ⟨φ, χ, ψ, μ, η, rl, ?_⟩)
          rw [hm]
          rintro v φ' H' g m' ⟨a, xs, rfl, ⟨o, h0, _⟩, r⟩
          have h : SqT X.K H' a xs := .inl (.inr ⟨o, h0⟩)
          exact ⟨a, rfl, ⟨xs, h⟩, p _ _ _ g m' (.of (.tup h r))⟩
        | str z =>
          cases hd
          refine .inr ⟨φ, χ, ψ, μ, η, rl, ?_⟩
          rw [hm]
          rintro v φ' H' g m' rfl
          exact ⟨z, rfl, p _ _ _ g m' (.of (.str z))⟩
        | _ => cases hd
/-- .. no list that may change -/
def rdIN (K : PySem.W.Frag) (mg : Str → Option Value) (W : WX) (m : MI) : TI := rd K mg W (fun φ χ _ H ds J => ItN K φ χ H J ds) m
abbrev IN (X : Cx) (W : WX) (tg it : Expr) (m : MI) : Prop := PI X tg it (rdIN X.K X.mg W m)
theorem in_ii {X : Cx} {W : WX} {tg it : Expr} {m : MI} (h : IN X W tg it m) : II X W tg it m := h.imp fun σ H Q q => by
  obtain ⟨φ, χ, ψ, μ, η, rl, p⟩ := q
  refine ⟨φ, χ, ψ, μ, η, rl, ?_⟩
  cases hm : m η μ with
  | ok d μ1 => rw [hm] at p; exact fun v φ' H' g m' rp => p v φ' H' g m' (.of rp)
  | exc x μ1 => rw [hm] at p; exact p
  | stuck => rw [hm] at p; exact p
def itemsN : D → Option (List D)
  | .fro l => some l
  | .tup l => some l
  | .ptu l => some l
  | .str z => some (z.cps.toList.map fun c => .str ⟨#[c]⟩)
  | _ => none
def iOfN (m : MV) : MI := fun η μ => (m η μ).bind fun d μ1 => match itemsN d with
  | some l => .ok l μ1
  | none => .stuck
theorem in_of {X : Cx} {W : WX} {tg e : Expr} {m : MV} (h : EE X W e m) : IN X W tg e (iOfN m) :=
  (((pi_list (tg := tg) h).or (pi_tup h)).or (pi_str h)).imp fun σ H Q q => by
    obtain ⟨φ, χ, ψ, μ, η, rl, p⟩ := q
    cases hm : m η μ with
    | stuck => unfold iOfN at p; rw [hm] at p; exact p.elim
    | exc x μ1 => unfold iOfN at p; rw [hm] at p; exact .inl (.inl ⟨φ, χ, ψ, μ, η, rl, by rw [hm]; exact p⟩)
    | ok d μ1 =>
      unfold iOfN at p
      rw [hm] at p
      simp only [R.bind_ok] at p
      cases hd : itemsN d with
      | none => rw [hd] at p; exact p.elim
      | some l =>
        rw [hd] at p
        simp only at p
        cases d with
        | fro l' =>
          cases hd
          refine .inl (.inl ⟨φ, χ, ψ, μ, η, rl, ?_⟩)
          rw [hm]
          rintro v φ' H' g m' ⟨a, xs, rfl, h, r⟩
          exact ⟨a, rfl, ⟨xs, h.seq⟩, p _ _ _ g m' (.fro h r)⟩
        | tup l' =>
          cases hd
          refine .inl (.inr ⟨φ, χ, ψ, μ, η, rl, ?_⟩)
          rw [hm]
          rintro v φ' H' g m' ⟨a, xs, rfl, h, r⟩
          exact ⟨a, rfl, ⟨xs, h⟩, p _ _ _ g m' (.tup h r)⟩
        | ptu l' =>
          cases hd
          refine .inl (.inr ⟨φ, χ, ψ, μ, η, rl, ?_⟩)
          rw [hm]
          rintro v φ' H' g m' ⟨a, xs, rfl, ⟨o, h0, _⟩, r⟩
          have h : SqT X.K H' a xs := .inl (.inr ⟨o, h0⟩)
          exact ⟨a, rfl, ⟨xs, h⟩, p _ _ _ g m' (.tup h r)⟩
        | str z =>
          cases hd
          refine .inr ⟨φ, χ, ψ, μ, η, rl, ?_⟩
          rw [hm]
          rintro v φ' H' g m' rfl
          exact ⟨z, rfl, p _ _ _ g m' (.str z)⟩
        | _ => cases hd
def iRange1 (ms : ML) : MI := fun η μ => (ms η μ).bind fun ds μ1 => match ds with
  | [.int j] => if (decide (-(2 ^ 62) ≤ j) && decide (j < 2 ^ 62)) = true then .ok ((List.range j.toNat).map fun i => .int (0 + (i : Nat))) μ1 else .stuck
  | _ => .stuck
def iRange2 (ms : ML) : MI := fun η μ => (ms η μ).bind fun ds μ1 => match ds with
  | [.int i, .int j] => if (decide (-(2 ^ 62) ≤ i) && decide (i < 2 ^ 62) && decide (-(2 ^ 62) ≤ j) && decide (j < 2 ^ 62)) = true then .ok ((List.range (j - i).toNat).map fun k => .int (i + (k : Nat))) μ1 else .stuck
  | _ => .stuck
theorem in_range1 {X : Cx} {W : WX} {tg a : Expr} {ms : ML} {p pos : Pos} (hm : X.mg "range" = none) (ha : AA X W [a] ms) (hg : Gl X "range" := by rfl) (hs : starEach [a] X.env = [(false, eval a X.env)] := by rfl) : IN X W tg (.Call (.Name "range" p) [a] [] pos) (iRange1 ms) :=
  (pi_range1 hg hm ha hs).imp fun σ H Q q => by
    obtain ⟨φ, χ, ψ, μ, η, rl, p⟩ := q
    refine rd_bind rl p fun φ1 H1 μ1 ds xs g1 r1 rx p1 => ?_
    split at p1
    · rename_i j
      obtain ⟨c, p1⟩ := p1.ite
      simp only [Bool.and_eq_true, decide_eq_true_eq] at c
      obtain ⟨x, ex, rx1⟩ := rx.one
      have e : x = .int j := rx1
      subst ex e
      exact ⟨j, rfl, c.1, c.2, p1 _ _ _ .refl r1.mem (.rng 0 j.toNat)⟩
    · exact p1.elim
theorem in_range2 {X : Cx} {W : WX} {tg a b : Expr} {ms : ML} {p pos : Pos} (hm : X.mg "range" = none) (ha : AA X W [a, b] ms) (hg : Gl X "range" := by rfl)
    (hs : starEach [a, b] X.env = [(false, eval a X.env), (false, eval b X.env)] := by rfl) (hs2 : starEach [b] X.env = [(false, eval b X.env)] := by rfl) : IN X W tg (.Call (.Name "range" p) [a, b] [] pos) (iRange2 ms) :=
  (pi_range2 hg hm ha hs hs2).imp fun σ H Q q => by
    obtain ⟨φ, χ, ψ, μ, η, rl, p⟩ := q
    refine rd_bind rl p fun φ1 H1 μ1 ds xs g1 r1 rx p1 => ?_
    split at p1
    · rename_i i j
      obtain ⟨c, p1⟩ := p1.ite
      simp only [Bool.and_eq_true, decide_eq_true_eq] at c
      obtain ⟨x, y, ex, rx1, ry⟩ := rx.two
      have e : x = .int i := rx1
      have e2 : y = .int j := ry
      subst ex e e2
      exact ⟨i, j, rfl, ⟨c.1.1.1, c.1.1.2, c.1.2, c.2⟩, p1 _ _ _ .refl r1.mem (.rng i (j - i).toNat)⟩
    · exact p1.elim

/-! what an iterator does while the heap grows -/
section
variable {K : PySem.W.Frag} {mg : Str → Option Value} {φ χ φ' ψ A A' : List Addr} {H H' H'' : Hp} {J : It} {ds : List D} {i : Nat} {x : V}
theorem ItN.go_stop (b : ItN K φ χ H J ds) (g : Gr A H A' H') :
    (∀ i, i < ds.length → J.go i H') ∧ J.stop ds.length H' ∧ ∀ i x H'', i < ds.length → J.yld i H' x H'' → ∃ d, ds[i]? = some d ∧ H'' = H' ∧
      ∀ (φ2 ψ2 : List Addr), (∀ {xs}, RpL K φ χ H ds xs → RpL K φ2 ψ2 H' ds xs) → Rp K φ2 ψ2 H' d x := by
  cases b with
  | @fro a xs ds h r =>
    have hq : SqL K H' a xs := (g.fz h).seq
    refine ⟨fun i hi => ⟨xs, xs[i]'(by rw [r.length]; exact hi), hq, by simp [r.length, hi]⟩, ⟨xs, hq, by rw [r.length]; exact Nat.le_refl _⟩, fun i x H'' _ y => ?_⟩
    obtain ⟨e, y⟩ := y
    obtain ⟨d, hd, rd⟩ := r.getV (y xs hq)
    refine ⟨d, hd, e, fun φ2 ψ2 f => ?_⟩
    obtain ⟨v, hv, rv⟩ := (f r).get hd
    rw [y xs hq] at hv; cases hv
    exact rv
  | @tup a xs ds h r =>
    have hq : SqT K H' a xs := g.tup h
    refine ⟨fun i hi => ⟨xs, xs[i]'(by rw [r.length]; exact hi), hq, by simp [r.length, hi]⟩, ⟨xs, hq, by rw [r.length]; exact Nat.le_refl _⟩, fun i x H'' _ y => ?_⟩
    obtain ⟨e, y⟩ := y
    obtain ⟨d, hd, rd⟩ := r.getV (y xs hq)
    refine ⟨d, hd, e, fun φ2 ψ2 f => ?_⟩
    obtain ⟨v, hv, rv⟩ := (f r).get hd
    rw [y xs hq] at hv; cases hv
    exact rv
  | str z =>
    refine ⟨fun i hi => (show i < z.cps.size by simpa using hi), by show z.cps.size ≤ _; simp, fun i x H'' _ y => ?_⟩
    obtain ⟨e, c, hc, rfl⟩ := y
    refine ⟨.str ⟨#[c]⟩, ?_, e, fun _ _ _ => rfl⟩
    rw [List.getElem?_map, show z.cps.toList[i]? = some c by simpa using hc]
    rfl
  | rng lo n =>
    refine ⟨fun i hi => (show i < n by simpa using hi), by show n ≤ _; simp, fun i x H'' hi y => ?_⟩
    obtain ⟨e, rfl⟩ := y
    refine ⟨.int (lo + (i : Nat)), ?_, e, fun _ _ _ => rfl⟩
    have hi' : i < n := by simpa using hi
    simp [hi']
  | rngC lo c n =>
    refine ⟨fun i hi => (show i < n by simpa using hi), by show n ≤ _; simp, fun i x H'' hi y => ?_⟩
    obtain ⟨e, rfl⟩ := y
    refine ⟨.int (lo + (i : Nat) * c), ?_, e, fun _ _ _ => rfl⟩
    have hi' : i < n := by simpa using hi
    simp [hi']
theorem ItB.go_stop (b : ItB K φ χ ψ H J ds) (g : Gr A H A' H') (hA : ∀ a, a ∉ φ → a ∉ χ → a ∉ ψ → a ∉ A) :
    (∀ i, i < ds.length → J.go i H') ∧ J.stop ds.length H' ∧ ∀ i x H'', i < ds.length → J.yld i H' x H'' → ∃ d, ds[i]? = some d ∧ H'' = H' ∧
      ∀ (φ2 ψ2 : List Addr), (∀ {xs}, RpL K φ χ H ds xs → RpL K φ2 ψ2 H' ds xs) → Rp K φ2 ψ2 H' d x := by
  cases b with
  | of h => exact h.go_stop g
  | @lst a xs ds n n2 n3 h r =>
    have h' : H' a = some (.lst xs) := g.keep a _ (fun z => absurd z (hA a n n2 n3)) h
    have hq : SqL K H' a xs := .of h'
    refine ⟨fun i hi => ⟨xs, xs[i]'(by rw [r.length]; exact hi), hq, by simp [r.length, hi]⟩, ⟨xs, hq, by rw [r.length]; exact Nat.le_refl _⟩, fun i x H'' _ y => ?_⟩
    obtain ⟨e, y⟩ := y
    obtain ⟨d, hd, rd⟩ := r.getV (y xs hq)
    refine ⟨d, hd, e, fun φ2 ψ2 f => ?_⟩
    obtain ⟨v, hv, rv⟩ := (f r).get hd
    rw [y xs hq] at hv; cases hv
    exact rv
end

/-! ### targets -/
inductive Tg where
  | nm (i : Nat)
  | tp (is : List Nat)
def setL {α : Type} : List (Option α) → List Nat → List α → List (Option α)
  | η, i :: is, d :: ds => setL (η.set i (some d)) is ds
  | η, _, _ => η
/-- data is stored at a target -/
def bindT : Tg → D → Env' → Option Env'
  | .nm i, d, η => some (η.set i (some d))
  | .tp is, .tup ds, η => if ds.length = is.length then some (setL η is ds) else none
  | _, _, _ => none
def gAll : List Nat → TGs
  | [] => gNil
  | i :: is => gCons (gName i) (gAll is)
def gOf (K : PySem.W.Frag) : Tg → TG
  | .nm i => gName i
  | .tp is => gTup K is.length (gAll is)
def tgIn : Tg → List Nat
  | .nm i => [i]
  | .tp is => is
section
variable {K : PySem.W.Frag} {φ χ ψ : List Addr} {H : Hp}
/-- slots stand for data, each by P -/
def Sl (P : D → V → Prop) (η : Env') (σ : L2.St) : Prop := η.length = σ.length ∧ ∀ (i : Nat) (d : D), η[i]? = some (some d) → ∃ v, σ[i]? = some (some v) ∧ P d v
theorem Sl.set {P : D → V → Prop} {η : Env'} {σ : L2.St} {d : D} {v : V} (s : Sl P η σ) (i : Nat) (h : P d v) : Sl P (η.set i (some d)) (σ.set i (some v)) := by
  refine ⟨by simp [s.1], fun j e he => ?_⟩
  by_cases hj : i = j
  · subst hj
    by_cases hl : i < η.length
    · rw [List.getElem?_set_self hl] at he
      cases he
      exact ⟨v, by rw [List.getElem?_set_self (by rw [← s.1]; exact hl)], h⟩
    · rw [List.getElem?_eq_none_iff.mpr (by simpa using hl)] at he
      cases he
  · rw [List.getElem?_set_ne hj] at he ⊢
    exact s.2 j e he
theorem Sl.setL {P : D → V → Prop} : ∀ {is : List Nat} {ds : List D} {xs : List V} {η : Env'} {σ : L2.St}, Sl P η σ → xs.length = ds.length → (∀ (i : Nat) (d : D), ds[i]? = some d → ∃ v, xs[i]? = some v ∧ P d v) → Sl P (FP.setL η is ds) (FP.setL σ is xs)
  | [], _, _, _, _, s, _, _ => s
  | _ :: _, [], [], _, _, s, _, _ => s
  | _ :: _, [], _ :: _, _, _, _, h, _ => by simp at h
  | _ :: _, _ :: _, [], _, _, _, h, _ => by simp at h
  | i :: is, d :: ds, x :: xs, η, σ, s, h, r => by
    obtain ⟨v, hv, p⟩ := r 0 d rfl
    cases hv
    show Sl P (FP.setL (η.set i (some d)) is ds) (FP.setL (σ.set i (some x)) is xs)
    exact Sl.setL (is := is) (s.set i p) (by simpa using h) fun j e he => by
      obtain ⟨v, hv, p⟩ := r (j + 1) e he
      exact ⟨v, hv, p⟩
theorem setL_length {α : Type} : ∀ {is : List Nat} {ds : List α} {η : List (Option α)}, (setL η is ds).length = η.length
  | [], _, _ => rfl
  | _ :: _, [], _ => rfl
  | i :: is, d :: ds, η => by
    show (setL (η.set i (some d)) is ds).length = _
    rw [setL_length]; simp
theorem gAll_run : ∀ {is : List Nat} {xs : List V} {σ : L2.St} {H : Hp} {Q : L2.St → Hp → Prop}, xs.length = is.length → Q (setL σ is xs) H → gAll is xs σ H Q
  | [], [], _, _, _, _, q => ⟨rfl, q⟩
  | [], _ :: _, _, _, _, h, _ => by simp at h
  | _ :: _, [], _, _, _, h, _ => by simp at h
  | i :: is, x :: xs, σ, H, Q, h, q => ⟨x, xs, rfl, gAll_run (is := is) (by simpa using h) q⟩
/-- a store at a target: what the slots stand for behind, for any P that holds of the data and, of a tuple, of its items -/
theorem gOf_run {P : D → V → Prop} {t : Tg} {d : D} {x : V} {η η1 : Env'} {σ : L2.St} {Q : L2.St → Hp → Prop} (hb : bindT t d η = some η1) (r : Rp K φ χ H d x) (s : Sl P η σ) (hp : P d x)
    (ht : ∀ ds xs, d = .tup ds → RpL K φ χ H ds xs → SqT K H (match x with | .ref a => a | _ => 0) xs → ∀ (i : Nat) (e : D), ds[i]? = some e → ∃ v, xs[i]? = some v ∧ P e v)
    (q : ∀ σ1, Sl P η1 σ1 → (∃ xs, σ1 = setL σ (tgIn t) xs) → Q σ1 H) : gOf K t x σ H Q := by
  cases t with
  | nm i =>
    cases hb
    exact q _ (s.set i hp) ⟨[x], rfl⟩
  | tp is =>
    unfold bindT at hb
    cases d with
    | tup ds =>
      simp only at hb
      split at hb
      · rename_i hl
        cases hb
        obtain ⟨a, xs, rfl, hq, rx⟩ := r
        refine ⟨a, xs, rfl, hq, by rw [rx.length]; exact hl, gAll_run (by rw [rx.length]; exact hl) ?_⟩
        exact q _ (s.setL rx.length (ht ds xs rfl rx hq)) ⟨xs, rfl⟩
      · cases hb
    | _ => cases hb
end
theorem wipe_set {σ : L2.St} {i : Nat} {o : Option V} : ∀ {vs : List Nat}, i ∈ vs → wipe (σ.set i o) vs = wipe σ vs
  | v :: vs, h => by
    show (wipe (σ.set i o) vs).set v none = (wipe σ vs).set v none
    by_cases hv : i ∈ vs
    · rw [wipe_set hv]
    · have e : i = v := by
        rcases List.mem_cons.mp h with h | h
        · exact h
        · exact absurd h hv
      subst e
      have key : ∀ (us : List Nat), (wipe (σ.set i o) us).set i none = (wipe σ us).set i none := by
        intro us
        induction us with
        | nil => simp [wipe]
        | cons u us ih =>
          show ((wipe (σ.set i o) us).set u none).set i none = ((wipe σ us).set u none).set i none
          by_cases hu : u = i
          · subst hu; simp [ih]
          · rw [List.set_comm _ _ (fun z => hu z), ih, List.set_comm _ _ (fun z => hu z.symm)]
      exact key vs
theorem wipe_setL {vs : List Nat} : ∀ {is : List Nat} {xs : List V} {σ : L2.St}, (∀ i ∈ is, i ∈ vs) → wipe (setL σ is xs) vs = wipe σ vs
  | [], _, _, _ => rfl
  | _ :: _, [], _, _ => rfl
  | i :: is, x :: xs, σ, h => by
    show wipe (setL (σ.set i (some x)) is xs) vs = _
    rw [wipe_setL fun j hj => h j (List.mem_cons_of_mem _ hj), wipe_set (h i List.mem_cons_self)]
theorem wipe_wipe {σ : L2.St} : ∀ {vs us : List Nat}, (∀ i ∈ us, i ∈ vs) → wipe (wipe σ us) vs = wipe σ vs
  | _, [], _ => rfl
  | vs, u :: us, h => by
    show wipe ((wipe σ us).set u none) vs = _
    rw [wipe_set (h u List.mem_cons_self), wipe_wipe fun i hi => h i (List.mem_cons_of_mem _ hi)]
def wipeD (η : Env') : List Nat → Env'
  | [] => η
  | v :: vs => (wipeD η vs).set v none
theorem Sl.wipe {P : D → V → Prop} {η : Env'} {σ : L2.St} (s : Sl P η σ) : ∀ vs, Sl P (wipeD η vs) (L2.wipe σ vs)
  | [] => s
  | v :: vs => by
    have ih := Sl.wipe s vs
    refine ⟨by show ((wipeD η vs).set v none).length = ((L2.wipe σ vs).set v none).length; simp [ih.1], fun j e he => ?_⟩
    have he' : ((wipeD η vs).set v none)[j]? = some (some e) := he
    show ∃ x, ((L2.wipe σ vs).set v none)[j]? = some (some x) ∧ P e x
    by_cases hj : v = j
    · subst hj
      by_cases hl : v < (wipeD η vs).length
      · rw [List.getElem?_set_self hl] at he'; cases he'
      · rw [List.getElem?_eq_none_iff.mpr (by simpa using hl)] at he'; cases he'
    · rw [List.getElem?_set_ne hj] at he' ⊢
      exact ih.2 j e he'

/-! ### comprehensions -/
def noX {α : Type} : R α → R α
  | .exc _ _ => .stuck
  | r => r
def bTrue : MB := fun _ μ => .ok true μ
/-- the turns over the items -/
def lcLoop (g : Tg) (tst : MB) (elt : MV) (η : Env') : List D → List D → Mem → R D
  | [], acc, μ => .ok (.lst acc) μ
  | d :: ds, acc, μ => match bindT g d η with
    | none => .stuck
    | some η1 => (noX (tst η1 μ)).bind fun b μ1 => if b = true then (noX (elt η1 μ1)).bind fun e μ2 => if acc.length < 10000000 then lcLoop g tst elt η ds (acc ++ [e]) μ2 else .stuck else lcLoop g tst elt η ds acc μ1
def mLc (it : MI) (g : Tg) (vs : List Nat) (tst : MB) (elt : MV) : MV := fun η μ => (it η μ).bind fun ds μ1 => lcLoop g tst elt (wipeD η vs) ds [] μ1
abbrev W0 : WX := fun _ _ _ _ => False
section
variable {K : PySem.W.Frag} {mg : Str → Option Value} {φ φ' χ ψ : List Addr} {H H' : Hp} {μ : Mem}
/-- p is new, hidden from now on -/
theorem MemOk.hid {p : Addr} {o : HO} (h : MemOk K mg φ ψ μ H) (hp : H p = none) : MemOk K mg φ (p :: ψ) μ (upd H p o) := by
  have g : Go φ H φ (upd H p o) := .new hp
  refine ⟨h.len, h.nd, fun k c a e e' => (h.ats k c a e e').via (fun r => g.rpL (r.more hp)) (fun u q => by rw [upd_ne (ne_of_none q hp)]; exact q), fun a z => ?_, fun a z => ?_⟩
  · rcases List.mem_cons.mp z with rfl | z
    · exact ⟨o, upd_same⟩
    · obtain ⟨u, q⟩ := h.trk a z
      exact ⟨u, by rw [upd_ne (ne_of_none q hp)]; exact q⟩
  · rcases List.mem_cons.mp z with rfl | z
    · exact Gr.notin h hp
    · exact h.dis a z
/-- a hidden list changes -/
theorem RpL.hidden {p : Addr} {o u : HO} {ds : List D} {xs : List V} (r : RpL K φ ψ H ds xs) (hp : p ∈ ψ) (h : H p = some o) (m : Mut (some o)) : RpL K φ ψ (upd H p u) ds xs :=
  r.mono (A := [p]) (A' := [p]) (.mut (by simp) h m) (fun a _ n z => n (by simp at z; rw [z]; exact hp)) (fun a z => .inl z) fun _ _ h => h
theorem Rp.hidden {p : Addr} {o u : HO} {d : D} {x : V} (r : Rp K φ ψ H d x) (hp : p ∈ ψ) (h : H p = some o) (m : Mut (some o)) : Rp K φ ψ (upd H p u) d x :=
  r.mono (A := [p]) (A' := [p]) (.mut (by simp) h m) (fun a _ n z => n (by simp at z; rw [z]; exact hp)) (fun a z => .inl z) fun _ _ h => h
theorem MemOk.hidden {p : Addr} {o u : HO} (h : MemOk K mg φ ψ μ H) (hp : p ∈ ψ) (e : H p = some o) (m : Mut (some o)) : MemOk K mg φ ψ μ (upd H p u) := by
  refine ⟨h.len, h.nd, fun k c a e1 e2 => (h.ats k c a e1 e2).via (fun r => r.hidden hp e m) (fun v q => ?_), fun a z => ?_, h.dis⟩
  · have ne : a ≠ p := fun z => h.dis p hp (z ▸ List.mem_of_getElem? e2)
    rw [upd_ne ne]; exact q
  · by_cases q : a = p
    · subst q; exact ⟨u, upd_same⟩
    · obtain ⟨v, hv⟩ := h.trk a z
      exact ⟨v, by rw [upd_ne q]; exact hv⟩
theorem Go.mutNew {p : Addr} {u : HO} (g : Go φ H φ' H') (hp : H p = none) : Go φ H φ' (upd H' p u) := by
  refine ⟨⟨g.gr.pre, fun a o hm e => ?_, fun a o e => ?_⟩, g.ext⟩
  · rw [upd_ne (ne_of_none e hp)]; exact g.gr.keep a o hm e
  · obtain ⟨o', e'⟩ := g.gr.there a o e
    exact ⟨o', by rw [upd_ne (ne_of_none e hp)]; exact e'⟩
theorem rd_noX {α β γ : Type} {rep : List Addr → List Addr → List Addr → Hp → α → β → Prop} {σ2 : L2.St} {χ' : List Addr} {η : Env'} {P : R γ → Prop} (hP : ¬ P .stuck)
    {m : Env' → Mem → R α} {g : α → Mem → R γ} {C : β → Hp → Prop} (r : Rel K mg φ χ' ψ μ η σ2 H) (p : P ((noX (m η μ)).bind g))
    (k : ∀ φ1 H1 μ1 d x, Go φ H φ1 H1 → Rel K mg φ1 χ' ψ μ1 η σ2 H1 → rep φ1 χ' ψ H1 d x → P (g d μ1) → C x H1) : rd K mg W0 rep m σ2 H C := by
  refine ⟨φ, χ', ψ, μ, η, r, ?_⟩
  cases h : m η μ with
  | ok d μ1 =>
    rw [h] at p
    exact fun v φ1 H1 g1 m1 rp => k φ1 H1 μ1 d v g1 (r.go g1 m1) rp p
  | exc x μ1 => rw [h] at p; exact (hP p).elim
  | stuck => rw [h] at p; exact (hP p).elim
end
theorem drop_cons {α : Type} {l : List α} {i : Nat} {d : α} (h : l[i]? = some d) : l.drop i = d :: l.drop (i + 1) := by
  obtain ⟨hi, e⟩ := List.getElem?_eq_some_iff.mp h
  rw [← e]; exact List.drop_eq_getElem_cons hi
section
variable {X : Cx} {W : WX} {elt tg iter : Expr} {ifs : List Expr} {scope : Scope} {own : List (Str × Nat)} {pos : Pos} {mi : MI} {g : Tg} {tst : MB} {e : MV}
/-- the state at turn i: the new list at Dl -/
def LcI (X : Cx) (P : R D → Prop) (g : Tg) (tst : MB) (e : MV) (ds : List D) (ηw : Env') (φ1 χ ψ : List Addr) (H1 : Hp) (Dl : Addr) (i : Nat) (H' : Hp) : Prop :=
  ∃ φ' μ' acc xs, Go φ1 H1 φ' H' ∧ MemOk X.K X.mg φ' ((Dl :: χ) ++ ψ) μ' H' ∧ H' Dl = some (.lst xs) ∧ RpL X.K φ' (Dl :: χ) H' acc xs ∧ P (lcLoop g tst e ηw (ds.drop i) acc μ')
theorem lc_run {σ : L2.St} {H1 : Hp} {Q : VK} {vs : List Nat} {P : R D → Prop} {φ1 χ ψ : List Addr} {μ1 : Mem} {η : Env'} {ds : List D} {J : It} (hP : ¬ P .stuck) (hv : ∀ i ∈ tgIn g, i ∈ vs) (r1 : Rel X.K X.mg φ1 χ ψ μ1 η σ H1) (hJ : ItB X.K φ1 χ [] H1 J ds) (p1 : P (lcLoop g tst e (wipeD η vs) ds [] μ1))
    (fin : ∀ Dl φ' μ' acc xs H', H1 Dl = none → Go φ1 H1 φ' H' → MemOk X.K X.mg φ' ((Dl :: χ) ++ ψ) μ' H' → H' Dl = some (.lst xs) → RpL X.K φ' (Dl :: χ) H' acc xs → P (.ok (.lst acc) μ') → Q (.ref Dl) H') :
    ∀ D, H1 D = none → ∃ W : Nat → Nat → Hp → Prop, (∃ m, W 0 m (upd H1 D (.lst []))) ∧ ∀ i m H, W i m H →
      (J.stop i H ∧ Q (.ref D) H) ∨ (J.go i H ∧ ∃ Nx : Hp → Prop, (∀ H', Nx H' → ∃ m', m' < m ∧ W (i + 1) m' H') ∧ ∀ x H', J.yld i H x H' → gOf X.K g x (wipe σ vs) H' fun σ2 H2 => wipe σ2 vs = wipe σ vs ∧ rd X.K X.mg W0 rB tst σ2 H2 fun b H3 =>
        if b = true then rd X.K X.mg W0 (rV X.K) e σ2 H3 fun y H4 => ∃ acc, H4 D = some (.lst acc) ∧ acc.length < sizeLine ∧ Nx (upd H4 D (.lst (acc ++ [y]))) else Nx H3) := by
  intro Dl hD
  refine ⟨fun i m H' => m = ds.length - i ∧ i ≤ ds.length ∧ LcI X P g tst e ds (wipeD η vs) φ1 χ ψ H1 Dl i H', ⟨ds.length, by simp, Nat.zero_le _, φ1, μ1, [], [], .new hD, r1.mem.hid hD, upd_same, .nil, p1⟩, ?_⟩
  rintro i m H' ⟨rfl, hi, φ', μ', acc, xs, g', m', hl, ra, p'⟩
  obtain ⟨j1, j2, j3⟩ := hJ.go_stop g'.gr fun a n _ _ => n
  by_cases hlt : i < ds.length
  · refine .inr ⟨j1 i hlt, LcI X P g tst e ds (wipeD η vs) φ1 χ ψ H1 Dl (i + 1), fun H2 h2 => ⟨ds.length - (i + 1), by omega, rfl, hlt, h2⟩, fun x H'' y => ?_⟩
    obtain ⟨d, hd, rfl, hx⟩ := j3 i x H'' hlt y
    have rx : Rp X.K φ' (Dl :: χ) H'' d x := hx φ' (Dl :: χ) fun r => g'.rpL (r.more hD)
    rw [drop_cons hd] at p'
    unfold lcLoop at p'
    cases hb : bindT g d (wipeD η vs) with
    | none => rw [hb] at p'; exact (hP p').elim
    | some η1 =>
      rw [hb] at p'
      simp only at p'
      have s0 : Sl (Rp X.K φ' (Dl :: χ) H'') (wipeD η vs) (L2.wipe σ vs) := by
        refine Sl.wipe ⟨r1.len, fun j e he => ?_⟩ vs
        obtain ⟨v, hv, rv⟩ := r1.ats j e he
        exact ⟨v, hv, g'.rp (rv.more hD)⟩
      refine gOf_run hb rx s0 rx (fun es ys _ ry _ j e he => ry.get he) fun σ2 s2 hσ => ?_
      obtain ⟨ys, hσ⟩ := hσ
      refine ⟨by rw [hσ, wipe_setL hv, wipe_wipe fun _ h => h], ?_⟩
      have rel2 : Rel X.K X.mg φ' (Dl :: χ) ψ μ' η1 σ2 H'' := ⟨m', s2.1, s2.2⟩
      refine rd_noX hP rel2 p' fun φ3 H3 μ3 b b' g3 r3 eb p3 => ?_
      cases eb
      have hl3 : H3 Dl = some (.lst xs) := g3.gr.keep Dl _ (fun z => absurd z (m'.dis Dl (by simp))) hl
      cases b with
      | false =>
        rw [if_neg Bool.false_ne_true] at p3
        exact ⟨φ3, μ3, acc, xs, g'.trans g3, r3.mem, hl3, g3.rpL ra, p3⟩
      | true =>
        rw [if_pos rfl] at p3
        refine rd_noX hP r3 p3 fun φ4 H4 μ4 e4 y4 g4 r4 ry p4 => ?_
        have hl4 : H4 Dl = some (.lst xs) := g4.gr.keep Dl _ (fun z => absurd z (r3.mem.dis Dl (by simp))) hl3
        split at p4
        · rename_i c
          have ra4 := g4.rpL (g3.rpL ra)
          refine ⟨xs, hl4, Nat.lt_of_lt_of_le (by rw [ra.length]; exact c) (line_le (Nat.le_refl _)), ?_⟩
          refine ⟨φ4, μ4, acc ++ [e4], xs ++ [y4], ((g'.trans g3).trans g4).mutNew hD, r4.mem.hidden (by simp) hl4 trivial, upd_same, ?_, p4⟩
          exact (ra4.append (.cons ry .nil)).hidden (by simp) hl4 trivial
        · exact (hP p4).elim
  · have e1 : i = ds.length := by omega
    subst e1
    refine .inl ⟨j2, ?_⟩
    rw [List.drop_length] at p'
    exact fin Dl φ' μ' acc xs H' hD g' m' hl ra p'
theorem rd_lc {σ : L2.St} {H : Hp} {Q : VK} {vs : List Nat} (hv : ∀ i ∈ tgIn g, i ∈ vs) (q : rd X.K X.mg W (rV X.K) (mLc mi g vs tst e) σ H Q) :
    tLc (rdI X.K X.mg W mi) (gOf X.K g) (rd X.K X.mg W0 rB tst) (rd X.K X.mg W0 (rV X.K) e) vs σ H Q := by
  obtain ⟨φ, χ, ψ, μ, η, rl, p⟩ := q
  refine rd_bind rl p fun φ1 H1 μ1 ds J g1 r1 hJ p1 => ?_
  refine lc_run (P := fun r => Post X.K X.mg W (rV X.K) σ φ1 χ ψ H1 r Q) (fun z => z) hv r1 hJ p1 fun Dl φ' μ' acc xs H' hD g' m' hl ra p' => ?_
  exact p' _ φ' H' g' (m'.less fun a z => List.mem_cons_of_mem _ z) ⟨Dl, xs, rfl, ⟨m'.dis Dl (by simp), Gr.offχ r1.mem hD⟩, hl, ra.less fun a z => List.mem_cons_of_mem _ z⟩
theorem ee_lc (hc : X.calm = true) (hN : X.N.Nodup) (g : Tg) (hv : ∀ i ∈ tgIn g, i ∈ own.map (·.2)) (hi : II X W tg iter mi) (ok : BlkOk X.N X.env.scope scope own)
    (hg : ∀ (s : Shared) (H : Hp) (C : Addr) (cl : List (Str × Addr)) (fp : List Addr), PG (X.blk s H scope (compEnvC scope cl C X.env) fp) tg (gOf X.K g))
    (ht : ∀ (s : Shared) (H : Hp) (C : Addr) (cl : List (Str × Addr)) (fp : List Addr), PTs (X.blk s H scope (compEnvC scope cl C X.env) fp) ifs (rd X.K X.mg W0 rB tst))
    (he : ∀ (s : Shared) (H : Hp) (C : Addr) (cl : List (Str × Addr)) (fp : List Addr), PE (X.blk s H scope (compEnvC scope cl C X.env) fp) elt (rd X.K X.mg W0 (rV X.K) e))
    (hs : ∀ x, foldedSetIterable iter X.env x = pure x := by intro _; rfl) : EE X W (.ListComp elt [⟨tg, iter, ifs, 0⟩] scope pos) (mLc mi g (own.map (·.2)) tst e) :=
  (pe_lc hc hN hi ok hg ht he hs).imp fun σ H Q q => rd_lc hv q
theorem pts_yes {X : Cx} : PTs X [] (rd X.K X.mg W0 rB bTrue) := by
  refine ⟨fun pins s σ H Q I h => pts_nil.run pins s σ H Q I ?_⟩
  obtain ⟨φ, χ, ψ, μ, η, rl, p⟩ := h
  exact p _ _ _ .refl rl.mem rfl
end
end FP
/-! Core5: statements. -/
namespace FP
open PySem PySem.Spec L2
open PyProof.Rows hiding St

/-! ### data without lists within -/
mutual
def noL : D → Bool
  | .tup l => noLs l
  | .lst _ => false
  | .fro l => noLs l
  | .ptu l => noLs l
  | .dic _ _ => false
  | _ => true
def noLs : List D → Bool
  | [] => true
  | d :: l => noL d && noLs l
end
section
variable {K : PySem.W.Frag} {φ χ χ' : List Addr} {H : Hp}
mutual
theorem noL_rp : ∀ {d : D} {v : V}, noL d = true → Rp K φ χ H d v → Rp K φ χ' H d v
  | .non, _, _, h => h
  | .bl _, _, _, h => h
  | .int _, _, _, h => h
  | .str _, _, _, h => h
  | .tup l, _, n, h => by
    obtain ⟨a, xs, e, q, r⟩ := h
    exact ⟨a, xs, e, q, noLs_rp (by simpa [noL] using n) r⟩
  | .fro l, _, n, h => by
    obtain ⟨a, xs, e, q, r⟩ := h
    exact ⟨a, xs, e, q, noLs_rp (by simpa [noL] using n) r⟩
  | .ptu l, _, n, h => by
    obtain ⟨a, xs, e, q, r⟩ := h
    exact ⟨a, xs, e, q, noLs_rp (by simpa [noL] using n) r⟩
  | .lst _, _, n, _ => by simp [noL] at n
  | .dic _ _, _, n, _ => by simp [noL] at n
  | .ptr _, _, _, h => h
theorem noLs_rp : ∀ {l : List D} {vs : List V}, noLs l = true → RpL K φ χ H l vs → RpL K φ χ' H l vs
  | [], _, _, h => h
  | d :: l, _, n, h => by
    obtain ⟨x, r, e, h1, h2⟩ := h
    simp only [noLs, Bool.and_eq_true] at n
    exact ⟨x, r, e, noL_rp n.1 h1, noLs_rp n.2 h2⟩
end
end
theorem noLs_append {a b : List D} (h : noLs a = true) (h' : noLs b = true) : noLs (a ++ b) = true := by
  induction a with
  | nil => exact h'
  | cons d a ih =>
    simp only [noLs, Bool.and_eq_true, List.cons_append] at h ⊢
    exact ⟨h.1, ih h.2⟩

/-! ### slots at a statement -/
/-- an own list or dict at a slot -/
def OwnAt (K : PySem.W.Frag) (φ Ψ ψ : List Addr) (H : Hp) (d : D) (v : V) : Prop := ∃ a, v = .ref a ∧ a ∈ ψ ∧ (match d with
  | .lst ds => ∃ xs, H a = some (.lst xs) ∧ RpL K φ Ψ H ds xs
  | .dic ks ds => ∃ xs, H a = some (.dK (ks.zip xs)) ∧ ks.length = ds.length ∧ RpL K φ Ψ H ds xs
  | _ => False)
structure RelS (K : PySem.W.Frag) (mg : Str → Option Value) (ω : List Nat) (φ χ ψ0 ψ : List Addr) (μ : Mem) (η : Env') (σ : L2.St) (H : Hp) : Prop where
  mem : MemOk K mg φ (χ ++ (ψ0 ++ ψ)) μ H
  off : ∀ a ∈ ψ, a ∉ χ ∧ a ∉ ψ0
  emp : ω = [] → ψ = []
  len : η.length = σ.length
  ats : ∀ (i : Nat) (d : D), i ∉ ω → η[i]? = some (some d) → ∃ v, σ[i]? = some (some v) ∧ Rp K φ (χ ++ ψ) H d v
  own : ∀ (i : Nat) (d : D), i ∈ ω → η[i]? = some (some d) → ∃ v, σ[i]? = some (some v) ∧ OwnAt K φ (χ ++ (ψ0 ++ ψ)) ψ H d v
  sep : ∀ (i j : Nat) (d e : D) (v : V), i ∈ ω → j ∈ ω → i ≠ j → η[i]? = some (some d) → η[j]? = some (some e) → σ[i]? = some (some v) → σ[j]? = some (some v) → False
/-- a statement's way -/
structure GoS (φ ψ : List Addr) (H : Hp) (φ' ψ' : List Addr) (H' : Hp) : Prop where
  gr : Gr (φ ++ ψ) H (φ' ++ ψ') H'
  ext : Ext φ φ'
  pφ : ∀ a ∈ φ', a ∈ φ ∨ H a = none
  pψ : ∀ a ∈ ψ', a ∈ ψ ∨ H a = none
theorem GoS.refl {φ ψ : List Addr} {H : Hp} : GoS φ ψ H φ ψ H := ⟨.refl, .refl, fun _ h => .inl h, fun _ h => .inl h⟩
theorem none_back {A A' : List Addr} {H H' : Hp} (g : Gr A H A' H') {a : Addr} (h : H' a = none) : H a = none := by
  cases e : H a with
  | none => rfl
  | some o =>
    obtain ⟨o', e'⟩ := g.there a o e
    rw [h] at e'; cases e'
theorem GoS.trans {φ φ1 φ2 ψ ψ1 ψ2 : List Addr} {H H1 H2 : Hp} (a : GoS φ ψ H φ1 ψ1 H1) (b : GoS φ1 ψ1 H1 φ2 ψ2 H2) : GoS φ ψ H φ2 ψ2 H2 := by
  refine ⟨a.gr.trans b.gr, a.ext.trans b.ext, fun x h => ?_, fun x h => ?_⟩
  · rcases b.pφ x h with h | h
    · exact a.pφ x h
    · exact .inr (none_back a.gr h)
  · rcases b.pψ x h with h | h
    · exact a.pψ x h
    · exact .inr (none_back a.gr h)
theorem Go.s {φ φ' ψ : List Addr} {H H' : Hp} (g : Go φ H φ' H') : GoS φ ψ H φ' ψ H' := by
  refine ⟨⟨fun a h => ?_, fun a o hm e => g.gr.keep a o (fun z => hm (List.mem_append_left _ z)) e, g.gr.there⟩, g.ext, g.gr.pre, fun _ h => .inl h⟩
  rcases List.mem_append.mp h with h | h
  · exact (g.gr.pre a h).imp_left (List.mem_append_left _)
  · exact .inl (List.mem_append_right _ h)
section
variable {K : PySem.W.Frag} {mg : Str → Option Value} {ω : List Nat} {φ φ' χ ψ0 ψ ψ' : List Addr} {μ μ' : Mem} {η : Env'} {σ : L2.St} {H H' : Hp}
theorem OwnAt.go {Ψ : List Addr} {d : D} {v : V} (g : Go φ H φ' H') (hd : ∀ a ∈ ψ, a ∉ φ) (h : OwnAt K φ Ψ ψ H d v) : OwnAt K φ' Ψ ψ H' d v := by
  obtain ⟨a, e, ha, h⟩ := h
  refine ⟨a, e, ha, ?_⟩
  cases d with
  | lst ds =>
    obtain ⟨xs, q, r⟩ := h
    exact ⟨xs, g.gr.keep a _ (fun z => absurd z (hd a ha)) q, g.rpL r⟩
  | dic ks ds =>
    obtain ⟨xs, q, l, r⟩ := h
    exact ⟨xs, g.gr.keep a _ (fun z => absurd z (hd a ha)) q, l, g.rpL r⟩
  | _ => exact h
theorem RelS.ψφ (r : RelS K mg ω φ χ ψ0 ψ μ η σ H) : ∀ a ∈ ψ, a ∉ φ := fun a h => r.mem.dis a (by simp [h])
theorem RelS.go (r : RelS K mg ω φ χ ψ0 ψ μ η σ H) (g : Go φ H φ' H') (m : MemOk K mg φ' (χ ++ (ψ0 ++ ψ)) μ' H') : RelS K mg ω φ' χ ψ0 ψ μ' η σ H' :=
  ⟨m, r.off, r.emp, r.len, fun i d n e => let ⟨v, e1, p⟩ := r.ats i d n e; ⟨v, e1, g.rp p⟩, fun i d n e => let ⟨v, e1, p⟩ := r.own i d n e; ⟨v, e1, p.go g r.ψφ⟩, r.sep⟩
/-- what an expression sees -/
theorem RelS.rel (r : RelS K mg ω φ χ ψ0 ψ μ η σ H) : Rel K mg φ χ (ψ0 ++ ψ) μ η σ H := by
  refine ⟨r.mem, r.len, fun i d e => ?_⟩
  by_cases h : i ∈ ω
  · obtain ⟨v, e1, a, rfl, ha, q⟩ := r.own i d h e
    refine ⟨_, e1, ?_⟩
    cases d with
    | lst ds =>
      obtain ⟨xs, q, rx⟩ := q
      exact ⟨a, xs, rfl, ⟨r.ψφ a ha, (r.off a ha).1⟩, q, rx.less fun _ z => List.mem_append_left _ z⟩
    | dic ks ds =>
      obtain ⟨xs, q, l, rx⟩ := q
      exact ⟨a, xs, rfl, ⟨r.ψφ a ha, (r.off a ha).1⟩, q, l, rx.less fun _ z => List.mem_append_left _ z⟩
    | _ => exact q.elim
  · obtain ⟨v, e1, p⟩ := r.ats i d h e
    exact ⟨v, e1, p.less fun _ z => List.mem_append_left _ z⟩
end

/-! ### readings of statements -/
/-- a list is one of N -/
def InN (N : List Addr) (d : D) (v : V) : Prop := match d with
  | .lst _ => ∀ a, v = .ref a → a ∈ N
  | .dic _ _ => ∀ a, v = .ref a → a ∈ N
  | _ => True
theorem InN.noL {N : List Addr} {d : D} {v : V} (h : noL d = true) : InN N d v := by
  cases d with
  | lst l => simp [FP.noL] at h
  | dic l => simp [FP.noL] at h
  | _ => trivial
def PostS (K : PySem.W.Frag) (mg : Str → Option Value) (W : WX) (ω : List Nat) (φ χ ψ0 ψ : List Addr) (H : Hp) (r : RS) (D : Ends) : Prop :=
  match r with
  | .nx η' μ' => ∀ σ' φ' ψ' H', GoS φ ψ H φ' ψ' H' → RelS K mg ω φ' χ ψ0 ψ' μ' η' σ' H' → D.nx σ' H'
  | .bk η' μ' => ∀ σ' φ' ψ' H', GoS φ ψ H φ' ψ' H' → RelS K mg ω φ' χ ψ0 ψ' μ' η' σ' H' → D.bk σ' H'
  | .ct η' μ' => ∀ σ' φ' ψ' H', GoS φ ψ H φ' ψ' H' → RelS K mg ω φ' χ ψ0 ψ' μ' η' σ' H' → D.ct σ' H'
  | .rt d μ' => ∀ v φ' ψ' H', GoS φ ψ H φ' ψ' H' → MemOk K mg φ' (χ ++ (ψ0 ++ ψ')) μ' H' → Rp K φ' (χ ++ ψ0) H' d v → InN ψ' d v → D.rt v H'
  | .exc x η' μ' => ∀ cls a σ' φ' ψ' H', GoS φ ψ H φ' ψ' H' → RelS K mg ω φ' χ ψ0 ψ' μ' η' σ' H' → XOk K mg φ' χ H' x cls a → W cls a σ' H'
  | .stuck => False
section
variable {K : PySem.W.Frag} {mg : Str → Option Value} {W : WX} {ω : List Nat} {φ φ' χ ψ0 ψ ψ' : List Addr} {μ : Mem} {η : Env'} {σ : L2.St} {H H' : Hp} {D D' : Ends} {r : RS}
theorem PostS.go (p : PostS K mg W ω φ χ ψ0 ψ H r D) (g : GoS φ ψ H φ' ψ' H') : PostS K mg W ω φ' χ ψ0 ψ' H' r D := by
  cases r with
  | nx η' μ' => exact fun σ2 φ2 ψ2 H2 g2 m => p σ2 φ2 ψ2 H2 (g.trans g2) m
  | bk η' μ' => exact fun σ2 φ2 ψ2 H2 g2 m => p σ2 φ2 ψ2 H2 (g.trans g2) m
  | ct η' μ' => exact fun σ2 φ2 ψ2 H2 g2 m => p σ2 φ2 ψ2 H2 (g.trans g2) m
  | rt d μ' => exact fun v φ2 ψ2 H2 g2 m => p v φ2 ψ2 H2 (g.trans g2) m
  | exc x η' μ' => exact fun c a σ2 φ2 ψ2 H2 g2 m => p c a σ2 φ2 ψ2 H2 (g.trans g2) m
  | stuck => exact p
abbrev MS := Env' → Mem → RS
def rdS (K : PySem.W.Frag) (mg : Str → Option Value) (W : WX) (ω : List Nat) (m : MS) : TS := fun D σ H => ∃ φ χ ψ0 ψ μ η, RelS K mg ω φ χ ψ0 ψ μ η σ H ∧ PostS K mg W ω φ χ ψ0 ψ H (m η μ) D
def liftR {α : Type} (r : R α) (η : Env') (g : α → Mem → RS) : RS := match r with
  | .ok a μ => g a μ
  | .exc x μ => .exc x η μ
  | .stuck => .stuck
@[simp] theorem liftR_ok {α : Type} (a : α) (μ : Mem) (η : Env') (g : α → Mem → RS) : liftR (.ok a μ) η g = g a μ := (Eq.refl _).trans (Eq.refl _)
@[simp] theorem liftR_exc {α : Type} (x : Exn) (μ : Mem) (η : Env') (g : α → Mem → RS) : liftR (.exc x μ) η g = .exc x η μ := (Eq.refl _).trans (Eq.refl _)
@[simp] theorem liftR_stuck {α : Type} (η : Env') (g : α → Mem → RS) : liftR .stuck η g = .stuck := (Eq.refl _).trans (Eq.refl _)
theorem rdS_bind {α β : Type} {rep : List Addr → List Addr → List Addr → Hp → α → β → Prop} {m : Env' → Mem → R α} {g : α → Mem → RS} {C : β → Hp → Prop} (r : RelS K mg ω φ χ ψ0 ψ μ η σ H) (p : PostS K mg W ω φ χ ψ0 ψ H (liftR (m η μ) η g) D)
    (k : ∀ φ1 H1 μ1 d x, Go φ H φ1 H1 → RelS K mg ω φ1 χ ψ0 ψ μ1 η σ H1 → rep φ1 χ (ψ0 ++ ψ) H1 d x → PostS K mg W ω φ1 χ ψ0 ψ H1 (g d μ1) D → C x H1) : rd K mg W rep m σ H C := by
  refine ⟨φ, χ, ψ0 ++ ψ, μ, η, r.rel, ?_⟩
  cases h : m η μ with
  | ok d μ1 =>
    rw [h] at p
    exact fun v φ1 H1 g1 m1 rp => k φ1 H1 μ1 d v g1 (r.go g1 m1) rp (PostS.go p g1.s)
  | exc x μ1 =>
    rw [h] at p
    exact fun c a φ1 H1 g1 m1 rx => p c a σ φ1 ψ H1 g1.s (r.go g1 m1) rx
  | stuck => rw [h] at p; exact p
end
abbrev SS (X : Cx) (W : WX) (ω : List Nat) (st : Stmt) (m : MS) : Prop := PS X st (rdS X.K X.mg W ω m)
abbrev SSs (X : Cx) (W : WX) (ω : List Nat) (sts : List Stmt) (m : MS) : Prop := PSs X sts (rdS X.K X.mg W ω m)

def RS.bind : RS → MS → RS
  | .nx η μ, f => f η μ
  | r, _ => r
@[simp] theorem RS.bind_nx (η : Env') (μ : Mem) (f : MS) : (RS.nx η μ).bind f = f η μ := (Eq.refl _).trans (Eq.refl _)
@[simp] theorem RS.bind_rt (d : D) (μ : Mem) (f : MS) : (RS.rt d μ).bind f = .rt d μ := (Eq.refl _).trans (Eq.refl _)
@[simp] theorem RS.bind_exc (x : Exn) (η : Env') (μ : Mem) (f : MS) : (RS.exc x η μ).bind f = .exc x η μ := (Eq.refl _).trans (Eq.refl _)
@[simp] theorem RS.bind_bk (η : Env') (μ : Mem) (f : MS) : (RS.bk η μ).bind f = .bk η μ := (Eq.refl _).trans (Eq.refl _)
@[simp] theorem RS.bind_ct (η : Env') (μ : Mem) (f : MS) : (RS.ct η μ).bind f = .ct η μ := (Eq.refl _).trans (Eq.refl _)
@[simp] theorem RS.bind_stuck (f : MS) : RS.stuck.bind f = .stuck := (Eq.refl _).trans (Eq.refl _)
def sNext : MS := fun η μ => .nx η μ
def sSeq (a b : MS) : MS := fun η μ => (a η μ).bind b
def sIf (c : MB) (a b : MS) : MS := fun η μ => liftR (c η μ) η fun x μ1 => if x = true then a η μ1 else b η μ1
/-- x = e, x no own list -/
def sSet (ω : List Nat) (i : Nat) (m : MV) : MS := fun η μ => liftR (m η μ) η fun d μ1 => if (ω.isEmpty || noL d) = true then .nx (η.set i (some d)) μ1 else .stuck
def sRet (m : MV) : MS := fun η μ => liftR (m η μ) η fun d μ1 => if noL d = true then .rt d μ1 else .stuck
def sRetN : MS := fun _ μ => .rt .non μ
def sDrop (m : MV) : MS := fun η μ => liftR (m η μ) η fun _ μ1 => .nx η μ1
def sBreak : MS := fun η μ => .bk η μ
def sCont : MS := fun η μ => .ct η μ
/-- return x, x an own list -/
def sRetOwn (ω : List Nat) (i : Nat) : MS := fun η μ => if i ∈ ω then match η[i]? with
  | some (some d) => .rt d μ
  | _ => .stuck else .stuck
section
variable {X : Cx} {W : WX} {ω : List Nat} {st : Stmt} {sts a b : List Stmt} {c e : Expr} {m : MS} {ma mb : MS} {tc : MB} {mv : MV} {pos pos' : Pos} {i : Nat} {x : Str}
theorem sss_nil : SSs X W ω [] sNext := pss_nil.imp fun D σ H q => by
  obtain ⟨φ, χ, ψ0, ψ, μ, η, r, p⟩ := q
  exact p σ φ ψ H .refl r
theorem seq_run {D : Ends} {σ : L2.St} {H : Hp} (q : rdS X.K X.mg W ω (sSeq ma mb) D σ H) : rdS X.K X.mg W ω ma { D with nx := rdS X.K X.mg W ω mb D } σ H := by
  obtain ⟨φ, χ, ψ0, ψ, μ, η, r, p⟩ := q
  refine ⟨φ, χ, ψ0, ψ, μ, η, r, ?_⟩
  unfold sSeq at p
  cases h : ma η μ with
  | nx η' μ' =>
    rw [h] at p
    exact fun σ' φ' ψ' H' g r' => ⟨φ', χ, ψ0, ψ', μ', η', r', PostS.go p g⟩
  | rt d μ' => rw [h] at p; exact p
  | bk η' μ' => rw [h] at p; exact p
  | ct η' μ' => rw [h] at p; exact p
  | exc x η' μ' => rw [h] at p; exact p
  | stuck => rw [h] at p; exact p
theorem sss_cons (h : SS X W ω st ma) (h' : SSs X W ω sts mb) : SSs X W ω (st :: sts) (sSeq ma mb) := (pss_cons h h').imp fun _ _ _ q => seq_run q
theorem sss_one (h : SS X W ω st ma) : SSs X W ω [st] ma := pss_one h
theorem ss_if (hc : TT' X W c tc) (ha : SSs X W ω a ma) (hb : SSs X W ω b mb) : SS X W ω (.If c a b pos) (sIf tc ma mb) := (ps_if hc ha hb).imp fun D σ H q => by
  obtain ⟨φ, χ, ψ0, ψ, μ, η, r, p⟩ := q
  refine rdS_bind r p fun φ1 H1 μ1 d x g1 r1 rx p1 => ?_
  cases rx
  cases d with
  | true => exact ⟨φ1, χ, ψ0, ψ, μ1, η, r1, p1⟩
  | false => exact ⟨φ1, χ, ψ0, ψ, μ1, η, r1, p1⟩
theorem RelS.set {K : PySem.W.Frag} {mg : Str → Option Value} {φ χ ψ0 ψ : List Addr} {μ : Mem} {η : Env'} {σ : L2.St} {H : Hp} {d : D} {v : V} (r : RelS K mg ω φ χ ψ0 ψ μ η σ H) (hi : i ∉ ω) (h : Rp K φ (χ ++ ψ) H d v) :
    RelS K mg ω φ χ ψ0 ψ μ (η.set i (some d)) (σ.set i (some v)) H := by
  have ne : ∀ j ∈ ω, i ≠ j := fun j hj z => hi (z ▸ hj)
  refine ⟨r.mem, r.off, r.emp, by simp [r.len], fun j e hj he => ?_, fun j e hj he => ?_, fun j k e f u hj hk hjk e1 e2 e3 e4 => ?_⟩
  · by_cases q : i = j
    · subst q
      by_cases hl : i < η.length
      · rw [List.getElem?_set_self hl] at he
        cases he
        exact ⟨v, by rw [List.getElem?_set_self (by rw [← r.len]; exact hl)], h⟩
      · rw [List.getElem?_eq_none_iff.mpr (by simpa using hl)] at he
        cases he
    · rw [List.getElem?_set_ne q] at he ⊢
      exact r.ats j e hj he
  · rw [List.getElem?_set_ne (ne j hj)] at he ⊢
    exact r.own j e hj he
  · rw [List.getElem?_set_ne (ne j hj)] at e1 e3
    rw [List.getElem?_set_ne (ne k hk)] at e2 e4
    exact r.sep j k e f u hj hk hjk e1 e2 e3 e4
theorem RelS.sealed {K : PySem.W.Frag} {mg : Str → Option Value} {φ χ ψ0 ψ : List Addr} {μ : Mem} {η : Env'} {σ : L2.St} {H : Hp} {d : D} {v : V} (r : RelS K mg ω φ χ ψ0 ψ μ η σ H) (c : (ω.isEmpty || noL d) = true) (h : Rp K φ χ H d v) : Rp K φ (χ ++ ψ) H d v := by
  rcases Bool.or_eq_true _ _ ▸ c with c | c
  · rw [r.emp (List.isEmpty_iff.mp c), List.append_nil]; exact h
  · exact noL_rp c h
theorem ss_set (hN : X.N.Nodup) (hi : X.N[i]? = some x) (hx : Loc X.env.scope x) (h : EE X W e mv) (ho : i ∉ ω := by decide) (hs : swapsWith e (some (.Name x pos')) pos.line X.env = pure false := by rfl) (hf : X.fn x = true ∨ X.env.scope.names.lookup x = some .local := by first | exact .inl rfl | exact .inr rfl | assumption) :
    SS X W ω (.Assign [.Name x pos'] e pos) (sSet ω i mv) := (ps_set hN hi hx h hs hf).imp fun D σ H q => by
  obtain ⟨φ, χ, ψ0, ψ, μ, η, r, p⟩ := q
  refine rdS_bind r p fun φ1 H1 μ1 d v g1 r1 rv p1 => ?_
  split at p1
  · rename_i c
    exact p1 _ φ1 ψ H1 .refl (r1.set ho (r1.sealed c rv))
  · exact p1.elim
theorem ss_ret (h : EE X W e mv) : SS X W ω (.Return (some e) pos) (sRet mv) := (ps_ret h).imp fun D σ H q => by
  obtain ⟨φ, χ, ψ0, ψ, μ, η, r, p⟩ := q
  refine rdS_bind r p fun φ1 H1 μ1 d v g1 r1 rv p1 => ?_
  split at p1
  · rename_i c
    exact p1 v φ1 ψ H1 .refl r1.mem (noL_rp c rv) (InN.noL c)
  · exact p1.elim
theorem ss_retN : SS X W ω (.Return none pos) sRetN := ps_retN.imp fun D σ H q => by
  obtain ⟨φ, χ, ψ0, ψ, μ, η, r, p⟩ := q
  exact p .non φ ψ H .refl r.mem rfl trivial
theorem ss_expr (h : EE X W e mv) (hs : swapsWith e none pos.line X.env = pure false := by rfl) : SS X W ω (.Expr e pos) (sDrop mv) := (ps_expr h hs).imp fun D σ H q => by
  obtain ⟨φ, χ, ψ0, ψ, μ, η, r, p⟩ := q
  refine rdS_bind r p fun φ1 H1 μ1 d v g1 r1 rv p1 => ?_
  exact p1 σ φ1 ψ H1 .refl r1
theorem ss_pass : SS X W ω (.Pass pos) sNext := ps_pass.imp fun D σ H q => by
  obtain ⟨φ, χ, ψ0, ψ, μ, η, r, p⟩ := q
  exact p σ φ ψ H .refl r
theorem ss_doc {x j pos pos'} : SS X W ω (.Expr (.Constant (.str x) j pos) pos') sNext := ps_doc.imp fun D σ H q => by
  obtain ⟨φ, χ, ψ0, ψ, μ, η, r, p⟩ := q
  exact p σ φ ψ H .refl r
theorem ss_break : SS X W ω (.Break pos) sBreak := ps_break.imp fun D σ H q => by
  obtain ⟨φ, χ, ψ0, ψ, μ, η, r, p⟩ := q
  exact p σ φ ψ H .refl r
theorem ss_cont : SS X W ω (.Continue pos) sCont := ps_continue.imp fun D σ H q => by
  obtain ⟨φ, χ, ψ0, ψ, μ, η, r, p⟩ := q
  exact p σ φ ψ H .refl r
/-- return x, x an own list -/
theorem ss_retOwn (h : PE X e (tVar i)) : SS X W ω (.Return (some e) pos) (sRetOwn ω i) := (ps_ret h).imp fun D σ H q => by
  obtain ⟨φ, χ, ψ0, ψ, μ, η, r, p⟩ := q
  unfold sRetOwn at p
  split at p
  · rename_i hi
    split at p
    · rename_i d hd
      obtain ⟨v, hv, a, rfl, ha, q⟩ := r.own i d hi hd
      refine ⟨_, hv, ?_⟩
      cases d with
      | lst ds =>
        obtain ⟨xs, q, rx⟩ := q
        exact p _ φ ψ H .refl r.mem ⟨a, xs, rfl, ⟨r.ψφ a ha, by simp [r.off a ha]⟩, q, rx.less fun b z => by
          rcases List.mem_append.mp z with z | z <;> simp [z]⟩ fun b e => by cases e; exact ha
      | dic ks ds =>
        obtain ⟨xs, q, l, rx⟩ := q
        exact p _ φ ψ H .refl r.mem ⟨a, xs, rfl, ⟨r.ψφ a ha, by simp [r.off a ha]⟩, q, l, rx.less fun b z => by
          rcases List.mem_append.mp z with z | z <;> simp [z]⟩ fun b e => by cases e; exact ha
      | _ => exact q.elim
    · exact p.elim
  · exact p.elim
end

/-! ### new lists -/
/-- what is wanted behind an expression that hands back no list that stood before: N the new ones -/
def PostF (K : PySem.W.Frag) (mg : Str → Option Value) (W : WX) (σ : L2.St) (φ χ ψ : List Addr) (H : Hp) (r : R D) (Q : VK) : Prop :=
  match r with
  | .ok d μ' => ∀ v φ' N H', Go φ H φ' H' → MemOk K mg φ' (χ ++ (ψ ++ N)) μ' H' → (∀ a ∈ N, H a = none) → Rp K φ' χ H' d v → InN N d v → Q v H'
  | .exc x μ' => ∀ cls a φ' H', Go φ H φ' H' → MemOk K mg φ' (χ ++ ψ) μ' H' → XOk K mg φ' χ H' x cls a → W cls a σ H'
  | .stuck => False
def rdF (K : PySem.W.Frag) (mg : Str → Option Value) (W : WX) (m : MV) : TE := fun σ H Q =>
  ∃ φ χ ψ μ η, Rel K mg φ χ ψ μ η σ H ∧ PostF K mg W σ φ χ ψ H (m η μ) Q
abbrev EF (X : Cx) (W : WX) (e : Expr) (m : MV) : Prop := PE X e (rdF X.K X.mg W m)
theorem MemOk.lessN {K : PySem.W.Frag} {mg : Str → Option Value} {φ χ ψ N : List Addr} {μ : Mem} {H : Hp} (m : MemOk K mg φ (χ ++ (ψ ++ N)) μ H) : MemOk K mg φ (χ ++ ψ) μ H := m.less fun a z => by
  simp only [List.mem_append] at z ⊢
  rcases z with z | z <;> simp [z]
theorem ef_ee {X : Cx} {W : WX} {e : Expr} {m : MV} (h : EF X W e m) : EE X W e m := h.imp fun σ H Q q => by
  obtain ⟨φ, χ, ψ, μ, η, r, p⟩ := q
  refine ⟨φ, χ, ψ, μ, η, r, ?_⟩
  cases h : m η μ with
  | ok d μ1 => rw [h] at p; exact fun v φ' N H' g m _ rp _ => p v φ' H' g m.lessN rp
  | exc x μ1 => rw [h] at p; exact p
  | stuck => rw [h] at p; exact p
/-- d is a list of plain things, or a plain thing -/
def retOk : D → Bool
  | .lst l => noLs l
  | d => noL d
theorem retOk_rp {K : PySem.W.Frag} {φ χ χ' : List Addr} {H : Hp} {d : D} {v : V} (c : retOk d = true) (h : Rp K φ χ H d v) (f : ∀ l a, d = .lst l → v = .ref a → a ∉ χ') : Rp K φ χ' H d v := by
  cases d with
  | lst l =>
    obtain ⟨a, xs, rfl, n, q, r⟩ := h
    exact ⟨a, xs, rfl, ⟨n.1, f l a rfl rfl⟩, q, noLs_rp c r⟩
  | _ => exact noL_rp c h
def sRetF (m : MV) : MS := fun η μ => liftR (m η μ) η fun d μ1 => if retOk d = true then .rt d μ1 else .stuck
/-- x = e, x an own list -/
def sOwn (i : Nat) (m : MV) : MS := fun η μ => liftR (m η μ) η fun d μ1 => match d with
  | .lst l => if noLs l = true then .nx (η.set i (some (.lst l))) μ1 else .stuck
  | _ => .stuck
section
variable {X : Cx} {W : WX} {ω : List Nat} {e : Expr} {mv : MV} {pos pos' : Pos} {i : Nat} {x : Str}
theorem rdF_bind {K : PySem.W.Frag} {mg : Str → Option Value} {φ χ ψ0 ψ : List Addr} {μ : Mem} {η : Env'} {σ : L2.St} {H : Hp} {D : Ends} {m : MV} {g : FP.D → Mem → RS} {C : VK} (r : RelS K mg ω φ χ ψ0 ψ μ η σ H) (p : PostS K mg W ω φ χ ψ0 ψ H (liftR (m η μ) η g) D)
    (k : ∀ φ1 H1 μ1 N d x, Go φ H φ1 H1 → RelS K mg ω φ1 χ ψ0 ψ μ1 η σ H1 → MemOk K mg φ1 (χ ++ ((ψ0 ++ ψ) ++ N)) μ1 H1 → (∀ a ∈ N, H a = none) → Rp K φ1 χ H1 d x → InN N d x → PostS K mg W ω φ χ ψ0 ψ H (g d μ1) D → C x H1) : rdF K mg W m σ H C := by
  refine ⟨φ, χ, ψ0 ++ ψ, μ, η, r.rel, ?_⟩
  cases h : m η μ with
  | ok d μ1 =>
    rw [h] at p
    exact fun v φ1 N H1 g1 m1 hN rp hi => k φ1 H1 μ1 N d v g1 (r.go g1 m1.lessN) m1 hN rp hi p
  | exc x μ1 =>
    rw [h] at p
    exact fun c a φ1 H1 g1 m1 rx => p c a σ φ1 ψ H1 g1.s (r.go g1 m1) rx
  | stuck => rw [h] at p; exact p
theorem ss_retF (h : EF X W e mv) : SS X W ω (.Return (some e) pos) (sRetF mv) := (ps_ret h).imp fun D σ H q => by
  obtain ⟨φ, χ, ψ0, ψ, μ, η, r, p⟩ := q
  refine rdF_bind r p fun φ1 H1 μ1 N d v g1 r1 m1 hN rv hi p1 => ?_
  split at p1
  · rename_i c
    have mem : ∀ a ∈ N, a ∉ χ ++ (ψ0 ++ ψ) := fun a z => Gr.off r.mem (hN a z)
    refine p1 v φ1 (ψ ++ N) H1 ⟨⟨fun a z => ?_, fun a o hm e => g1.gr.keep a o (fun z => hm (List.mem_append_left _ z)) e, g1.gr.there⟩, g1.ext, g1.gr.pre, fun a z => ?_⟩ (by simpa [List.append_assoc] using m1) (retOk_rp c rv fun l a e1 e2 => ?_) ?_
    · simp only [List.mem_append] at z ⊢
      rcases z with z | z | z
      · exact (g1.gr.pre a z).imp_left .inl
      · exact .inl (.inr z)
      · exact .inr (hN a z)
    · rcases List.mem_append.mp z with z | z
      · exact .inl z
      · exact .inr (hN a z)
    · subst e1
      have := mem a (hi a e2)
      simp only [List.mem_append, not_or] at this ⊢
      exact ⟨this.1, this.2.1⟩
    · cases d with
      | lst l => exact fun a e => List.mem_append_right _ (hi a e)
      | dic ks l => exact fun a e => List.mem_append_right _ (hi a e)
      | _ => trivial
  · exact p1.elim
theorem RelS.newOwn {K : PySem.W.Frag} {mg : Str → Option Value} {φ φ1 χ ψ0 ψ : List Addr} {μ μ1 : Mem} {η : Env'} {σ : L2.St} {H H1 : Hp} {d : FP.D} {a : Addr} (r0 : RelS K mg ω φ χ ψ0 ψ μ η σ H) (g : Go φ H φ1 H1) (m : MemOk K mg φ1 (χ ++ (ψ0 ++ ψ)) μ1 H1) (hi : i ∈ ω) (hn : H a = none) (ha : a ∉ φ1) (ht : ∃ o, H1 a = some o)
    (m2 : MemOk K mg φ1 (χ ++ (ψ0 ++ (a :: ψ))) μ1 H1)
    (h : OwnAt K φ1 (χ ++ (ψ0 ++ (a :: ψ))) (a :: ψ) H1 d (.ref a)) : RelS K mg ω φ1 χ ψ0 (a :: ψ) μ1 (η.set i (some d)) (σ.set i (some (.ref a))) H1 := by
  have off := Gr.off r0.mem hn
  simp only [List.mem_append, not_or] at off
  have addψ : ∀ {d v}, Rp K φ (χ ++ ψ) H d v → Rp K φ1 (χ ++ (a :: ψ)) H1 d v := fun h => (g.rp (h.more hn)).less fun b z => by
    simp only [List.mem_append, List.mem_cons] at z ⊢
    rcases z with z | z | z <;> simp [z]
  have addL : ∀ {ds xs}, RpL K φ (χ ++ (ψ0 ++ ψ)) H ds xs → RpL K φ1 (χ ++ (ψ0 ++ (a :: ψ))) H1 ds xs := fun h => (g.rpL (h.more hn)).less fun b z => by
    simp only [List.mem_append, List.mem_cons] at z ⊢
    rcases z with z | z | z | z <;> simp [z]
  have ownNe : ∀ j e, j ∈ ω → η[j]? = some (some e) → ∃ b, σ[j]? = some (some (.ref b)) ∧ b ≠ a := fun j e hj he => by
    obtain ⟨v, hv, b, rfl, hb, _⟩ := r0.own j e hj he
    exact ⟨b, hv, fun z => off.2.2 (z ▸ hb)⟩
  refine ⟨m2, fun b z => ?_, fun z => absurd hi (by rw [z]; exact fun w => nomatch w), by simp [r0.len], fun j e hj he => ?_, fun j e hj he => ?_, fun j k e f u hj hk hjk e1 e2 e3 e4 => ?_⟩
  · rcases List.mem_cons.mp z with rfl | z
    · exact ⟨off.1, off.2.1⟩
    · exact r0.off b z
  · have ne : i ≠ j := fun z => hj (z ▸ hi)
    rw [List.getElem?_set_ne ne] at he ⊢
    obtain ⟨v, hv, rv⟩ := r0.ats j e hj he
    exact ⟨v, hv, addψ rv⟩
  · by_cases q : i = j
    · subst q
      by_cases hl : i < η.length
      · rw [List.getElem?_set_self hl] at he
        cases he
        exact ⟨_, by rw [List.getElem?_set_self (by rw [← r0.len]; exact hl)], h⟩
      · rw [List.getElem?_eq_none_iff.mpr (by simpa using hl)] at he
        cases he
    · rw [List.getElem?_set_ne q] at he ⊢
      obtain ⟨v, hv, b, rfl, hb, q⟩ := r0.own j e hj he
      refine ⟨_, hv, b, rfl, List.mem_cons_of_mem _ hb, ?_⟩
      have kp : ∀ o, H b = some o → H1 b = some o := fun o e => g.gr.keep b o (fun z => absurd z (r0.ψφ b hb)) e
      cases e with
      | lst ds => obtain ⟨xs, q, r⟩ := q; exact ⟨xs, kp _ q, addL r⟩
      | dic ks ds => obtain ⟨xs, q, l, r⟩ := q; exact ⟨xs, kp _ q, l, addL r⟩
      | _ => exact q
  · by_cases q : i = j
    · subst q
      have nk : i ≠ k := hjk
      rw [List.getElem?_set_ne nk] at e2 e4
      obtain ⟨b, hb, hne⟩ := ownNe k f hk e2
      by_cases hl : i < σ.length
      · rw [List.getElem?_set_self hl] at e3
        rw [hb] at e4
        cases e3; cases e4
        exact hne rfl
      · rw [List.getElem?_eq_none_iff.mpr (by simpa using hl)] at e3
        cases e3
    · rw [List.getElem?_set_ne q] at e1 e3
      by_cases q2 : i = k
      · subst q2
        obtain ⟨b, hb, hne⟩ := ownNe j e hj e1
        by_cases hl : i < σ.length
        · rw [List.getElem?_set_self hl] at e4
          rw [hb] at e3
          cases e3; cases e4
          exact hne rfl
        · rw [List.getElem?_eq_none_iff.mpr (by simpa using hl)] at e4
          cases e4
      · rw [List.getElem?_set_ne q2] at e2 e4
        exact r0.sep j k e f u hj hk hjk e1 e2 e3 e4
theorem ss_own (hN : X.N.Nodup) (hi : X.N[i]? = some x) (hx : Loc X.env.scope x) (h : EF X W e mv) (ho : i ∈ ω := by decide) (hs : swapsWith e (some (.Name x pos')) pos.line X.env = pure false := by rfl) (hf : X.fn x = true ∨ X.env.scope.names.lookup x = some .local := by first | exact .inl rfl | exact .inr rfl | assumption) :
    SS X W ω (.Assign [.Name x pos'] e pos) (sOwn i mv) := (ps_set hN hi hx h hs hf).imp fun D σ H q => by
  obtain ⟨φ, χ, ψ0, ψ, μ, η, r, p⟩ := q
  refine rdF_bind r p fun φ1 H1 μ1 N d v g1 r1 m1 hN rv hin p1 => ?_
  split at p1
  · rename_i l
    split at p1
    · rename_i c
      obtain ⟨a, xs, rfl, n, q, rx⟩ := rv
      have ha : a ∈ N := hin a rfl
      have m2 : MemOk X.K X.mg φ1 (χ ++ (ψ0 ++ (a :: ψ))) μ1 H1 := m1.less fun b z => by
        simp only [List.mem_append, List.mem_cons] at z ⊢
        rcases z with z | z | rfl | z <;> simp [*]
      have rs := RelS.newOwn (i := i) (d := .lst l) r g1 r1.mem ho (hN a ha) n.1 ⟨_, q⟩ m2 ⟨a, rfl, List.mem_cons_self, xs, q, noLs_rp c rx⟩
      refine p1 _ φ1 (a :: ψ) H1 ⟨⟨fun b z => ?_, fun b o hm e => g1.gr.keep b o (fun z => hm (List.mem_append_left _ z)) e, g1.gr.there⟩, g1.ext, g1.gr.pre, fun b z => ?_⟩ rs
      · simp only [List.mem_append, List.mem_cons] at z ⊢
        rcases z with z | rfl | z
        · exact (g1.gr.pre b z).imp_left .inl
        · exact .inr (hN b ha)
        · exact .inl (.inr z)
      · rcases List.mem_cons.mp z with rfl | z
        · exact .inr (hN b ha)
        · exact .inl z
    · exact p1.elim
  · exact p1.elim
/-- a new dict -/
def sOwnD (i : Nat) : MS := fun η μ => .nx (η.set i (some (.dic [] []))) μ
theorem ss_ownD (hN : X.N.Nodup) (hi : X.N[i]? = some x) (hx : Loc X.env.scope x) {dpos : Pos} (ho : i ∈ ω := by decide) (hs : swapsWith (.Dict [] [] dpos) (some (.Name x pos')) pos.line X.env = pure false := by rfl) (hf : X.fn x = true ∨ X.env.scope.names.lookup x = some .local := by first | exact .inl rfl | exact .inr rfl | assumption) :
    SS X W ω (.Assign [.Name x pos'] (.Dict [] [] dpos) pos) (sOwnD i) := (ps_set hN hi hx pe_dnewK hs hf).imp fun D σ H q a ha => by
  obtain ⟨φ, χ, ψ0, ψ, μ, η, r, p⟩ := q
  have g1 : Go φ H φ (upd H a (.dK [])) := .new ha
  have n1 := Gr.notin r.mem ha
  have m2 : MemOk X.K X.mg φ (χ ++ (ψ0 ++ (a :: ψ))) μ (upd H a (.dK [])) := (r.mem.hid ha).less fun b z => by
    simp only [List.mem_append, List.mem_cons] at z ⊢
    rcases z with z | z | rfl | z <;> simp [*]
  have rs := RelS.newOwn (i := i) (d := .dic [] []) r g1 (r.mem.new ha) ho ha n1 ⟨_, upd_same⟩ m2 ⟨a, rfl, List.mem_cons_self, [], upd_same, rfl, .nil⟩
  refine p _ φ (a :: ψ) _ ⟨⟨fun b z => ?_, fun b o hm e => g1.gr.keep b o (fun z => hm (List.mem_append_left _ z)) e, g1.gr.there⟩, g1.ext, g1.gr.pre, fun b z => ?_⟩ rs
  · simp only [List.mem_append, List.mem_cons] at z ⊢
    rcases z with z | rfl | z
    · exact .inl (.inl z)
    · exact .inr ha
    · exact .inl (.inr z)
  · rcases List.mem_cons.mp z with rfl | z
    · exact .inr ha
    · exact .inl z
/-! own lists and dicts change -/
theorem RelS.ownSet {K : PySem.W.Frag} {mg : Str → Option Value} {φ χ ψ0 ψ : List Addr} {μ : Mem} {η : Env'} {σ : L2.St} {H : Hp} {d d' : FP.D} {a : Addr} {o u : HO} (r : RelS K mg ω φ χ ψ0 ψ μ η σ H) (hi : i ∈ ω) (hd : η[i]? = some (some d)) (hv : σ[i]? = some (some (.ref a))) (ha : a ∈ ψ) (ho : H a = some o) (hm : Mut (some o))
    (h : OwnAt K φ (χ ++ (ψ0 ++ ψ)) ψ (upd H a u) d' (.ref a)) : RelS K mg ω φ χ ψ0 ψ μ (η.set i (some d')) σ (upd H a u) := by
  have hΨ : a ∈ χ ++ (ψ0 ++ ψ) := by simp [ha]
  refine ⟨r.mem.hidden hΨ ho hm, r.off, r.emp, by simp [r.len], fun j e hj he => ?_, fun j e hj he => ?_, fun j k e f v hj hk hjk e1 e2 e3 e4 => ?_⟩
  · have ne : i ≠ j := fun z => hj (z ▸ hi)
    rw [List.getElem?_set_ne ne] at he
    obtain ⟨v, hv, rv⟩ := r.ats j e hj he
    exact ⟨v, hv, rv.hidden (by simp [ha]) ho hm⟩
  · by_cases q : i = j
    · subst q
      have hl : i < η.length := (List.getElem?_eq_some_iff.mp hd).1
      rw [List.getElem?_set_self hl] at he
      cases he
      exact ⟨_, hv, h⟩
    · rw [List.getElem?_set_ne q] at he
      obtain ⟨v, hv2, b, rfl, hb, q2⟩ := r.own j e hj he
      have ne : b ≠ a := fun z => r.sep i j d e (.ref a) hi hj q hd he hv (z ▸ hv2)
      refine ⟨_, hv2, b, rfl, hb, ?_⟩
      cases e with
      | lst ds => obtain ⟨xs, q3, r3⟩ := q2; exact ⟨xs, by rw [upd_ne ne]; exact q3, r3.hidden hΨ ho hm⟩
      | dic ks ds => obtain ⟨xs, q3, l, r3⟩ := q2; exact ⟨xs, by rw [upd_ne ne]; exact q3, l, r3.hidden hΨ ho hm⟩
      | _ => exact q2
  · have get : ∀ j e, (η.set i (some d'))[j]? = some (some e) → ∃ e', η[j]? = some (some e') := fun j e he => by
      by_cases q : i = j
      · subst q; exact ⟨d, hd⟩
      · rw [List.getElem?_set_ne q] at he; exact ⟨e, he⟩
    obtain ⟨e', h1⟩ := get j e e1
    obtain ⟨f', h2⟩ := get k f e2
    exact r.sep j k e' f' v hj hk hjk h1 h2 e3 e4
theorem GoS.mut {φ ψ : List Addr} {H : Hp} {a : Addr} {o u : HO} (ha : a ∈ ψ) (ho : H a = some o) (hm : Mut (some o)) : GoS φ ψ H φ ψ (upd H a u) :=
  ⟨.mut (List.mem_append_right _ ha) ho hm, .refl, fun _ h => .inl h, fun _ h => .inl h⟩
/-- x.append(e), x an own list -/
def sAppend (ω : List Nat) (i : Nat) (m : MV) : MS := fun η μ => if i ∈ ω then match η[i]? with
  | some (some (.lst l)) => liftR (m η μ) η fun d μ1 => if (noL d && decide (l.length < 10000000)) = true then .nx (η.set i (some (.lst (l ++ [d])))) μ1 else .stuck
  | _ => .stuck else .stuck
theorem ss_append {apos cpos : Pos} (hv : PE X (.Name x pos') (tVar i)) (h : EE X W e mv)
    (hbase : PE X (.Call (.Attribute (.Name x pos') "append" apos) [e] [] cpos) (tBM X.K "list" rAppend (tVar i) (tCons (rd X.K X.mg W (rV X.K) mv) tNil)))
    (hs : swapsWith (.Call (.Attribute (.Name x pos') "append" apos) [e] [] cpos) none pos.line X.env = pure false := by rfl) : SS X W ω (.Expr (.Call (.Attribute (.Name x pos') "append" apos) [e] [] cpos) pos) (sAppend ω i mv) := (ps_expr hbase hs).imp fun D σ H q => by
  obtain ⟨φ, χ, ψ0, ψ, μ, η, r, p⟩ := q
  unfold sAppend at p
  split at p
  · rename_i hi
    split at p
    · rename_i l hl
      obtain ⟨v, hv, a, rfl, ha, xs, q, rx⟩ := r.own i _ hi hl
      refine ⟨_, hv, .inl ⟨rfl, _, .inl (.inl q)⟩, ?_⟩
      refine rdS_bind r p fun φ1 H1 μ1 d y g1 r1 ry p1 => ?_
      split at p1
      · rename_i c
        simp only [Bool.and_eq_true, decide_eq_true_eq] at c
        obtain ⟨v, hv1, b, e1, hb, ys, q1, rx1⟩ := r1.own i _ hi hl
        rw [hv] at hv1
        cases hv1; cases e1
        refine ⟨a, ys, y, rfl, rfl, q1, Nat.lt_of_lt_of_le (by rw [rx1.length]; exact c.2) (line_le (Nat.le_refl _)), ?_⟩
        have rs := RelS.ownSet (d' := .lst (l ++ [d])) (u := .lst (ys ++ [y])) r1 hi hl hv ha q1 trivial ⟨a, rfl, ha, _, upd_same, (rx1.append (.cons (noL_rp c.1 ry) .nil)).hidden (by simp [ha]) q1 trivial⟩
        exact p1 _ φ1 ψ _ (.mut ha q1 trivial) rs
      · exact p1.elim
    · exact p.elim
  · exact p.elim
/-! dicts -/
def keyD : FP.D → Option Key
  | .int i => some (.inl i)
  | .str s => some (.inr s)
  | _ => none
theorem keyD_rp {K : PySem.W.Frag} {φ χ : List Addr} {H : Hp} {d : FP.D} {v : V} {k : Key} (h : keyD d = some k) (r : Rp K φ χ H d v) : v = kV k := by
  cases d <;> first | (cases h; done) | (cases h; cases r; rfl)
def dget : List Key → List FP.D → Key → Option FP.D
  | k' :: ks, d :: ds, k => if k' = k then some d else dget ks ds k
  | _, _, _ => none
theorem dget_rp {K : PySem.W.Frag} {φ χ : List Addr} {H : Hp} {k : Key} : ∀ {ks : List Key} {ds : List FP.D} {xs : List V}, ks.length = ds.length → RpL K φ χ H ds xs → match dget ks ds k with
    | some d => ∃ v, valV (ks.zip xs) k = some v ∧ Rp K φ χ H d v
    | none => valV (ks.zip xs) k = none
  | [], [], _, _, r => by cases r; rfl
  | [], _ :: _, _, h, _ => by simp at h
  | _ :: _, [], _, h, _ => by simp at h
  | k' :: ks, d :: ds, _, h, r => by
    obtain ⟨x, q, rfl, r1, r2⟩ := r
    have ih := dget_rp (k := k) (ks := ks) (by simpa using h) r2
    unfold dget
    by_cases e : k' = k
    · rw [if_pos e]
      refine ⟨x, ?_, r1⟩
      simp [valV, e]
    · rw [if_neg e]
      have e2 : valV ((k' :: ks).zip (x :: q)) k = valV (ks.zip q) k := by simp [valV, e]
      rw [e2]; exact ih
def dputL (k : Key) (d : FP.D) : List Key → List FP.D → List FP.D
  | k' :: ks, d' :: ds => (if k' = k then d else d') :: dputL k d ks ds
  | _, _ => []
def hasK (ks : List Key) (k : Key) : Bool := ks.any fun k' => decide (k' = k)
def dputK (ks : List Key) (k : Key) : List Key := if hasK ks k = true then ks else ks ++ [k]
def dputV (ks : List Key) (ds : List FP.D) (k : Key) (d : FP.D) : List FP.D := if hasK ks k = true then dputL k d ks ds else ds ++ [d]
theorem dput_rp {K : PySem.W.Frag} {φ χ : List Addr} {H : Hp} {k : Key} {d : FP.D} {v : V} {ks : List Key} {ds : List FP.D} {xs : List V} (hl : ks.length = ds.length) (r : RpL K φ χ H ds xs) (rv : Rp K φ χ H d v) :
    ∃ ys, putK (ks.zip xs) k v = (dputK ks k).zip ys ∧ (dputK ks k).length = (dputV ks ds k d).length ∧ RpL K φ χ H (dputV ks ds k d) ys := by
  have hx := r.length
  have key : ∀ (ks : List Key) (ds : List FP.D) (xs : List V), ks.length = ds.length → RpL K φ χ H ds xs → ∃ ys, (ks.zip xs).map (fun kv => if kv.1 = k then (kv.1, v) else kv) = ks.zip ys ∧ ks.length = (dputL k d ks ds).length ∧ RpL K φ χ H (dputL k d ks ds) ys := by
    intro ks
    induction ks with
    | nil => intro ds xs h r; cases ds with
      | nil => cases r; exact ⟨[], rfl, rfl, rfl⟩
      | cons _ _ => simp at h
    | cons k' ks ih =>
      intro ds xs h r
      cases ds with
      | nil => simp at h
      | cons d' ds =>
        obtain ⟨x, q, rfl, r1, r2⟩ := r
        obtain ⟨ys, e1, e2, e3⟩ := ih ds q (by simpa using h) r2
        refine ⟨(if k' = k then v else x) :: ys, ?_, by simp [dputL, e2], ?_⟩
        · simp only [List.zip_cons_cons, List.map_cons, e1]
          by_cases e : k' = k <;> simp [e]
        · refine ⟨_, _, rfl, ?_, e3⟩
          by_cases e : k' = k
          · simp only [if_pos e]; exact rv
          · simp only [if_neg e]; exact r1
  have hany : ∀ (ks : List Key) (xs : List V), xs.length = ks.length → ((ks.zip xs).any fun kv => decide (kv.1 = k)) = hasK ks k := by
    intro ks
    induction ks with
    | nil => intro xs _; rfl
    | cons k' ks ih =>
      intro xs h
      cases xs with
      | nil => simp at h
      | cons x xs =>
        have := ih xs (by simpa using h)
        unfold hasK at this ⊢
        simp only [List.zip_cons_cons, List.any_cons, this]
  unfold putK dputK dputV
  rw [hany ks xs (by omega)]
  by_cases h : hasK ks k = true
  · simp only [h, if_true]
    exact key ks ds xs hl r
  · simp only [h, if_false, Bool.false_eq_true]
    refine ⟨xs ++ [v], ?_, by simp [hl], r.append (.cons rv .nil)⟩
    rw [List.zip_append (by omega)]
    rfl
/-- x[k] = e, x an own dict -/
def sDSet (ω : List Nat) (i : Nat) (mk m : MV) : MS := fun η μ => if i ∈ ω then match η[i]? with
  | some (some (.dic ks ds)) => liftR (m η μ) η fun d μ1 => liftR (mk η μ1) η fun kd μ2 => match keyD kd with
    | some k => if (noL d && decide (ks.length < 10000000)) = true then .nx (η.set i (some (.dic (dputK ks k) (dputV ks ds k d)))) μ2 else .stuck
    | none => .stuck
  | _ => .stuck else .stuck
theorem ss_dset {k : Expr} {mk : MV} {spos : Pos} (hu : X.A.units + 1 < cLine) (hv : PE X (.Name x pos') (tVar i)) (hk : EE X W k mk) (h : EE X W e mv)
    (hs : swapsWith e (some (.Subscript (.Name x pos') k spos)) pos.line X.env = pure false := by rfl) : SS X W ω (.Assign [.Subscript (.Name x pos') k spos] e pos) (sDSet ω i mk mv) := (ps_dput hu hv hk h hs).imp fun D σ H q => by
  obtain ⟨φ, χ, ψ0, ψ, μ, η, r, p⟩ := q
  unfold sDSet at p
  split at p
  · rename_i hi
    split at p
    · rename_i ks ds hl
      refine rdS_bind r p fun φ1 H1 μ1 d y g1 r1 ry p1 => ?_
      obtain ⟨v, hv, a, rfl, ha, _⟩ := r1.own i _ hi hl
      refine ⟨_, hv, ?_⟩
      refine rdS_bind r1 p1 fun φ2 H2 μ2 kd y2 g2 r2 rk p2 => ?_
      split at p2
      · rename_i kk hkk
        split at p2
        · rename_i c
          simp only [Bool.and_eq_true, decide_eq_true_eq] at c
          obtain ⟨v, hv1, b, e1, hb, xs, q1, hlen, rx1⟩ := r2.own i _ hi hl
          rw [hv] at hv1
          cases hv1; cases e1
          have ey := keyD_rp hkk rk
          subst ey
          obtain ⟨ys, e2, e3, e4⟩ := dput_rp (k := kk) (d := d) hlen rx1 (noL_rp c.1 (g2.rp ry))
          refine ⟨a, _, rfl, DPut.k q1 ?_, ?_⟩
          · have : (ks.zip xs).length ≤ ks.length := by simp; omega
            exact Nat.lt_of_le_of_lt this (Nat.lt_of_lt_of_le c.2 (line_le (Nat.le_refl _)))
          · rw [e2]
            have rs := RelS.ownSet (d' := .dic (dputK ks kk) (dputV ks ds kk d)) (u := .dK ((dputK ks kk).zip ys)) r2 hi hl hv ha q1 trivial ⟨a, rfl, ha, _, upd_same, e3, e4.hidden (by simp [ha]) q1 trivial⟩
            exact p2 _ φ2 ψ _ (.mut ha q1 trivial) rs
        · exact p2.elim
      · exact p2.elim
    · exact p.elim
  · exact p.elim
end
end FP
/-! Core6: loops, targets, cells. -/
namespace FP
open PySem PySem.Spec L2
open PyProof.Rows hiding St

/-! ### what a for walks at a statement -/
def rdIS (K : PySem.W.Frag) (mg : Str → Option Value) (W : WX) (ω : List Nat) (m : MI) : TI := fun σ H R => ∃ φ χ ψ0 ψ μ η, RelS K mg ω φ χ ψ0 ψ μ η σ H ∧ (match m η μ with
  | .ok ds μ' => ∀ J φ' H', Go φ H φ' H' → MemOk K mg φ' (χ ++ (ψ0 ++ ψ)) μ' H' → ItB K φ' χ ψ H' J ds → R J H'
  | .exc x μ' => ∀ cls a φ' H', Go φ H φ' H' → MemOk K mg φ' (χ ++ (ψ0 ++ ψ)) μ' H' → XOk K mg φ' χ H' x cls a → W cls a σ H'
  | .stuck => False)
abbrev IS (X : Cx) (W : WX) (ω : List Nat) (tg it : Expr) (m : MI) : Prop := PI X tg it (rdIS X.K X.mg W ω m)
section
variable {X : Cx} {W : WX} {ω : List Nat} {tg it : Expr} {m : MI}
theorem is_of (h : II X W tg it m) : IS X W [] tg it m := h.imp fun σ H R q => by
  obtain ⟨φ, χ, ψ0, ψ, μ, η, r, p⟩ := q
  have e : ψ = [] := r.emp rfl
  refine ⟨φ, χ, ψ0 ++ ψ, μ, η, r.rel, ?_⟩
  cases hm : m η μ with
  | ok ds μ1 => rw [hm] at p; exact fun J φ' H' g m' b => p J φ' H' g m' (by rw [e]; exact b)
  | exc x μ1 => rw [hm] at p; exact p
  | stuck => rw [hm] at p; exact p
theorem is_ofN (h : IN X W tg it m) : IS X W ω tg it m := h.imp fun σ H R q => by
  obtain ⟨φ, χ, ψ0, ψ, μ, η, r, p⟩ := q
  refine ⟨φ, χ, ψ0 ++ ψ, μ, η, r.rel, ?_⟩
  cases hm : m η μ with
  | ok ds μ1 => rw [hm] at p; exact fun J φ' H' g m' b => p J φ' H' g m' (.of b)
  | exc x μ1 => rw [hm] at p; exact p
  | stuck => rw [hm] at p; exact p
/-- what a call leaves: a new list, or things that nobody changes -/
def iOfL (m : MV) : MI := fun η μ => (m η μ).bind fun d μ1 => match itemsD d with
  | some l => .ok l μ1
  | none => .stuck
theorem is_ofF {m : MV} (h : EF X W it m) : IS X W ω tg it (iOfL m) := (((pi_list (tg := tg) h).or (pi_tup h)).or (pi_str h)).imp fun σ H R q => by
  obtain ⟨φ, χ, ψ0, ψ, μ, η, r, p⟩ := q
  cases hm : m η μ with
  | exc x μ1 => unfold iOfL at p; rw [hm] at p; exact .inl (.inl ⟨φ, χ, ψ0 ++ ψ, μ, η, r.rel, by rw [hm]; exact p⟩)
  | stuck => unfold iOfL at p; rw [hm] at p; exact p.elim
  | ok d μ1 =>
    unfold iOfL at p
    rw [hm] at p
    simp only [FP.R.bind_ok] at p
    cases d with
    | lst l =>
      refine .inl (.inl ⟨φ, χ, ψ0 ++ ψ, μ, η, r.rel, ?_⟩)
      rw [hm]
      rintro v φ' N H' g m' hN ⟨a, xs, rfl, n, q, rx⟩ hi
      have hn : H a = none := hN a (hi a rfl)
      have off := Gr.off r.mem hn
      simp only [List.mem_append, not_or] at off
      exact ⟨a, rfl, ⟨xs, .of q⟩, p _ _ _ g m'.lessN (.lst n.1 n.2 off.2.2 q rx)⟩
    | fro l =>
      refine .inl (.inl ⟨φ, χ, ψ0 ++ ψ, μ, η, r.rel, ?_⟩)
      rw [hm]
      rintro v φ' N H' g m' hN ⟨a, xs, rfl, q, rx⟩ hi
      exact ⟨a, rfl, ⟨xs, q.seq⟩, p _ _ _ g m'.lessN (.of (.fro q rx))⟩
    | tup l =>
      refine .inl (.inr ⟨φ, χ, ψ0 ++ ψ, μ, η, r.rel, ?_⟩)
      rw [hm]
      rintro v φ' N H' g m' hN ⟨a, xs, rfl, q, rx⟩ hi
      exact ⟨a, rfl, ⟨xs, q⟩, p _ _ _ g m'.lessN (.of (.tup q rx))⟩
    | ptu l =>
      refine .inl (.inr ⟨φ, χ, ψ0 ++ ψ, μ, η, r.rel, ?_⟩)
      rw [hm]
      rintro v φ' N H' g m' hN ⟨a, xs, rfl, ⟨o, q, _⟩, rx⟩ hi
      have q : SqT X.K H' a xs := .inl (.inr ⟨o, q⟩)
      exact ⟨a, rfl, ⟨xs, q⟩, p _ _ _ g m'.lessN (.of (.tup q rx))⟩
    | str z =>
      refine .inr ⟨φ, χ, ψ0 ++ ψ, μ, η, r.rel, ?_⟩
      rw [hm]
      rintro v φ' N H' g m' hN rfl hi
      exact ⟨z, rfl, p _ _ _ g m'.lessN (.of (.str z))⟩
    | _ => exact p.elim
end

/-! ### targets at a statement -/
section
variable {K : PySem.W.Frag} {mg : Str → Option Value} {ω : List Nat} {φ χ ψ0 ψ : List Addr} {μ : Mem} {H : Hp}
theorem RelS.setL : ∀ {is : List Nat} {ds : List D} {xs : List V} {η : Env'} {σ : L2.St}, RelS K mg ω φ χ ψ0 ψ μ η σ H → (∀ i ∈ is, i ∉ ω) → RpL K φ (χ ++ ψ) H ds xs → RelS K mg ω φ χ ψ0 ψ μ (FP.setL η is ds) (FP.setL σ is xs) H
  | [], _, _, _, _, r, _, _ => r
  | _ :: _, [], _, _, _, r, _, h => by cases h; exact r
  | i :: is, d :: ds, _, η, σ, r, n, h => by
    obtain ⟨x, q, rfl, h1, h2⟩ := h
    exact RelS.setL (is := is) (r.set (n i List.mem_cons_self) h1) (fun j hj => n j (List.mem_cons_of_mem _ hj)) h2
theorem gOf_runS {t : Tg} {d : D} {x : V} {η η1 : Env'} {σ : L2.St} {Q : L2.St → Hp → Prop} (hb : bindT t d η = some η1) (r : RelS K mg ω φ χ ψ0 ψ μ η σ H) (h : Rp K φ (χ ++ ψ) H d x) (hn : ∀ i ∈ tgIn t, i ∉ ω)
    (q : ∀ σ1, RelS K mg ω φ χ ψ0 ψ μ η1 σ1 H → Q σ1 H) : gOf K t x σ H Q := by
  cases t with
  | nm i =>
    cases hb
    exact q _ (r.set (hn i (by simp [tgIn])) h)
  | tp is =>
    unfold bindT at hb
    cases d with
    | tup ds =>
      simp only at hb
      split at hb
      · rename_i hl
        cases hb
        obtain ⟨a, xs, rfl, hq, rx⟩ := h
        exact ⟨a, xs, rfl, hq, by rw [rx.length]; exact hl, gAll_run (by rw [rx.length]; exact hl) (q _ (r.setL hn rx))⟩
      · cases hb
    | _ => cases hb
end
/-- targets = e -/
def tgOk (ω : List Nat) (t : Tg) : Bool := (tgIn t).all fun i => !ω.contains i
theorem tgOk_of {ω : List Nat} {t : Tg} (h : tgOk ω t = true) : ∀ i ∈ tgIn t, i ∉ ω := fun i hi z => by
  have := List.all_eq_true.mp h i hi
  simp [z] at this
def sAsg (ω : List Nat) (t : Tg) (m : MV) : MS := fun η μ => liftR (m η μ) η fun d μ1 => if (tgOk ω t && (ω.isEmpty || noL d)) = true then match bindT t d η with
  | some η1 => .nx η1 μ1
  | none => .stuck else .stuck
section
variable {X : Cx} {W : WX} {ω : List Nat} {tg e it : Expr} {t : Tg} {mv : MV} {pos : Pos} {body : List Stmt} {mb : MS} {mi : MI}
theorem ss_asg (he : EE X W e mv) (hg : PG X tg (gOf X.K t)) (hs : swapsWithSole [tg] e pos.line X.env = pure false := by rfl) (hw : swappedStores [tg] e X.env = pure none := by rfl)
    (h1 : (assignEach [tg] X.env).map (·.2) = [assign tg X.env] := by rfl) : SS X W ω (.Assign [tg] e pos) (sAsg ω t mv) := (ps_asg he hg hs hw h1).imp fun D σ H q => by
  obtain ⟨φ, χ, ψ0, ψ, μ, η, r, p⟩ := q
  refine rdS_bind r p fun φ1 H1 μ1 d v g1 r1 rv p1 => ?_
  split at p1
  · rename_i c
    simp only [Bool.and_eq_true] at c
    split at p1
    · rename_i η1 hb
      exact gOf_runS hb r1 (r1.sealed c.2 rv) (tgOk_of c.1) fun σ1 r2 => p1 σ1 φ1 ψ H1 .refl r2
    · exact p1.elim
  · exact p1.elim
/-! ### for -/
def forLoop (g : Tg) (body : MS) : List D → MS
  | [], η, μ => .nx η μ
  | d :: ds, η, μ => match bindT g d η with
    | none => .stuck
    | some η1 => match body η1 μ with
      | .nx η2 μ2 => forLoop g body ds η2 μ2
      | .ct η2 μ2 => forLoop g body ds η2 μ2
      | .bk η2 μ2 => .nx η2 μ2
      | r => r
def sFor (ω : List Nat) (g : Tg) (mi : MI) (body : MS) : MS := fun η μ => liftR (mi η μ) η fun ds μ1 => if (tgOk ω g && (ω.isEmpty || noLs ds)) = true then forLoop g body ds η μ1 else .stuck
theorem ss_for (g : Tg) (hi : IS X W ω tg it mi) (hg : PG X tg (gOf X.K g)) (hb : SSs X W ω body mb) (hp : PassesOwn (model X.prog X.w) X.A X.env X.xe) (hc : X.calm = true)
    (hs : ∀ x, foldedSetIterable it X.env x = pure x := by intro _; rfl) : SS X W ω (.For tg it body [] pos) (sFor ω g mi mb) := (ps_for hp hc hi hg hb hs).imp fun D σ H q => by
  obtain ⟨φ, χ, ψ0, ψ, μ, η, r, p⟩ := q
  refine ⟨φ, χ, ψ0, ψ, μ, η, r, ?_⟩
  unfold sFor at p
  cases hm : mi η μ with
  | stuck => rw [hm] at p; exact p
  | exc x μ1 => rw [hm] at p; exact fun c a φ1 H1 g1 m1 rx => p c a σ φ1 ψ H1 g1.s (r.go g1 m1) rx
  | ok ds μ1 =>
    rw [hm] at p
    simp only [liftR_ok] at p
    split at p
    case isFalse => exact p.elim
    rename_i c
    simp only [Bool.and_eq_true] at c
    intro J φ1 H1 g1 m1 hJ
    have r1 := r.go g1 m1
    have p1 := PostS.go p g1.s
    refine ⟨fun i m σ' H' => m = ds.length - i ∧ i ≤ ds.length ∧ ∃ φ' ψ' μ' η', GoS φ1 ψ H1 φ' ψ' H' ∧ RelS X.K X.mg ω φ' χ ψ0 ψ' μ' η' σ' H' ∧ PostS X.K X.mg W ω φ' χ ψ0 ψ' H' (forLoop g mb (ds.drop i) η' μ') D, ⟨ds.length, by simp, Nat.zero_le _, φ1, ψ, μ1, η, .refl, r1, p1⟩, ?_⟩
    rintro i m σ' H' ⟨rfl, hi, φ', ψ', μ', η', g', r', p'⟩
    obtain ⟨j1, j2, j3⟩ := hJ.go_stop g'.gr fun a n1 _ n3 z => by
      rcases List.mem_append.mp z with z | z
      · exact n1 z
      · exact n3 z
    by_cases hlt : i < ds.length
    · refine .inr ⟨j1 i hlt, fun σ2 H2 => ∃ φ2 ψ2 μ2 η2, GoS φ1 ψ H1 φ2 ψ2 H2 ∧ RelS X.K X.mg ω φ2 χ ψ0 ψ2 μ2 η2 σ2 H2 ∧ PostS X.K X.mg W ω φ2 χ ψ0 ψ2 H2 (forLoop g mb (ds.drop (i + 1)) η2 μ2) D, fun σ2 H2 h2 => ⟨ds.length - (i + 1), by omega, rfl, hlt, h2⟩, fun x H'' y => ?_⟩
      obtain ⟨d, hd, rfl, hx⟩ := j3 i x H'' hlt y
      have tr : ∀ {es : List FP.D} {xs : List V}, noLs es = true ∨ ω = [] → RpL X.K φ1 χ H1 es xs → RpL X.K φ' (χ ++ ψ') H'' es xs := fun {es xs} hn rx => by
        have rx2 : RpL X.K φ1 (χ ++ ψ) H1 es xs := by
          rcases hn with hn | hn
          · exact noLs_rp hn rx
          · rw [r.emp hn, List.append_nil]; exact rx
        refine rx2.mono g'.gr (fun a n1 n2 z => ?_) (fun a z => ?_) fun _ _ => g'.ext.at
        · rcases List.mem_append.mp z with z | z
          · exact n1 z
          · exact n2 (List.mem_append_right _ z)
        · simp only [List.mem_append] at z ⊢
          rcases z with z | z | z
          · exact (g'.pφ a z).imp_left .inl
          · exact .inl (.inr (.inl z))
          · exact (g'.pψ a z).imp_left fun w => .inr (.inr w)
      have rx : Rp X.K φ' (χ ++ ψ') H'' d x := by
        by_cases hω : ω = []
        · exact hx φ' (χ ++ ψ') fun h => tr (.inr hω) h
        · have hn : noLs ds = true := by
            rcases Bool.or_eq_true _ _ ▸ c.2 with c | c
            · exact absurd (List.isEmpty_iff.mp c) hω
            · exact c
          exact hx φ' (χ ++ ψ') fun h => tr (.inl hn) h
      rw [drop_cons hd] at p'
      unfold forLoop at p'
      cases hbt : bindT g d η' with
      | none => rw [hbt] at p'; exact p'.elim
      | some η1 =>
        rw [hbt] at p'
        simp only at p'
        refine gOf_runS hbt r' rx (tgOk_of c.1) fun σ1 r2 => ⟨φ', χ, ψ0, ψ', μ', η1, r2, ?_⟩
        cases hbody : mb η1 μ' with
        | nx η2 μ2 => rw [hbody] at p'; exact fun σ3 φ3 ψ3 H3 g3 r3 => ⟨φ3, ψ3, μ2, η2, g'.trans g3, r3, PostS.go p' g3⟩
        | ct η2 μ2 => rw [hbody] at p'; exact fun σ3 φ3 ψ3 H3 g3 r3 => ⟨φ3, ψ3, μ2, η2, g'.trans g3, r3, PostS.go p' g3⟩
        | bk η2 μ2 => rw [hbody] at p'; exact p'
        | rt d2 μ2 => rw [hbody] at p'; exact p'
        | exc x2 η2 μ2 => rw [hbody] at p'; exact p'
        | stuck => rw [hbody] at p'; exact p'
    · have e1 : i = ds.length := by omega
      subst e1
      refine .inl ⟨j2, ?_⟩
      rw [List.drop_length] at p'
      exact p' σ' φ' ψ' H' .refl r'
/-! ### while -/
def whileLoop (c : MB) (body : MS) : Nat → MS
  | 0, _, _ => .stuck
  | n + 1, η, μ => liftR (c η μ) η fun b μ1 => if b = true then match body η μ1 with
      | .nx η2 μ2 => whileLoop c body n η2 μ2
      | .ct η2 μ2 => whileLoop c body n η2 μ2
      | .bk η2 μ2 => .nx η2 μ2
      | r => r
    else .nx η μ1
theorem ss_while {c : Expr} {tc : MB} (n : Nat) (hc : TT' X W c tc) (hb : SSs X W ω body mb) (hp : PassesOwn (model X.prog X.w) X.A X.env X.xe) : SS X W ω (.While c body [] pos) (whileLoop tc mb n) := (ps_while hp hc hb).imp fun D σ H q => by
  refine ⟨fun m σ H => rdS X.K X.mg W ω (whileLoop tc mb m) D σ H, ⟨n, q⟩, fun m σ' H' q' => ?_⟩
  obtain ⟨φ, χ, ψ0, ψ, μ, η, r, p⟩ := q'
  cases m with
  | zero => exact p.elim
  | succ m =>
    unfold whileLoop at p
    refine rdS_bind r p fun φ1 H1 μ1 b b' g1 r1 rb p1 => ?_
    cases rb
    cases b with
    | false => exact p1 σ' φ1 ψ H1 .refl r1
    | true =>
      rw [if_pos rfl] at p1 ⊢
      refine ⟨fun σ2 H2 => rdS X.K X.mg W ω (whileLoop tc mb m) D σ2 H2, fun σ2 H2 h => ⟨m, Nat.lt_succ_self m, h⟩, φ1, χ, ψ0, ψ, μ1, η, r1, ?_⟩
      cases hbody : mb η μ1 with
      | nx η2 μ2 => rw [hbody] at p1; exact fun σ3 φ3 ψ3 H3 g3 r3 => ⟨φ3, χ, ψ0, ψ3, μ2, η2, r3, PostS.go p1 g3⟩
      | ct η2 μ2 => rw [hbody] at p1; exact fun σ3 φ3 ψ3 H3 g3 r3 => ⟨φ3, χ, ψ0, ψ3, μ2, η2, r3, PostS.go p1 g3⟩
      | bk η2 μ2 => rw [hbody] at p1; exact p1
      | rt d2 μ2 => rw [hbody] at p1; exact p1
      | exc x2 η2 μ2 => rw [hbody] at p1; exact p1
      | stuck => rw [hbody] at p1; exact p1
/-! ### x op= e -/
def sAug (ω : List Nat) (i : Nat) (f : FP.D → FP.D → Mem → R FP.D) (m : MV) : MS := fun η μ => match η[i]? with
  | some (some d0) => liftR (m η μ) η fun d μ1 => liftR (f d0 d μ1) η fun z μ2 => if (!ω.contains i && (ω.isEmpty || noL z)) = true then .nx (η.set i (some z)) μ2 else .stuck
  | _ => .stuck
theorem ss_aug {op : Operator} {f : FP.D → FP.D → Mem → R FP.D} {ti : TIp} {i : Nat} {x : Str} {pos' : Pos} (hN : X.N.Nodup) (hi : X.N[i]? = some x) (hx : Loc X.env.scope x) (ho : PIp X op ti) (hf : OpS X.K X.mg f ti) (he : EE X W e mv) (hf2 : X.fn x = true ∨ X.env.scope.names.lookup x = some .local := by first | exact .inl rfl | exact .inr rfl | assumption) :
    SS X W ω (.AugAssign (.Name x pos') op e pos) (sAug ω i f mv) := (ps_aug hN hi hx he ho hf2).imp fun D σ H q => by
  obtain ⟨φ, χ, ψ0, ψ, μ, η, r, p⟩ := q
  unfold sAug at p
  split at p
  · rename_i d0 hd0
    obtain ⟨v0, hv0, _⟩ := r.rel.ats i d0 hd0
    refine ⟨v0, hv0, ?_⟩
    refine rdS_bind r p fun φ1 H1 μ1 d y g1 r1 ry p1 => ?_
    obtain ⟨v1, hv1, rv0⟩ := r1.rel.ats i d0 hd0
    rw [hv0] at hv1; cases hv1
    refine hf W φ1 χ (ψ0 ++ ψ) μ1 σ H1 d0 d v0 y _ r1.mem rv0 ry ?_
    cases hz : f d0 d μ1 with
    | stuck => rw [hz] at p1; exact p1
    | exc x2 μ2 => rw [hz] at p1; exact fun c a φ2 H2 g2 m2 rx => p1 c a σ φ2 ψ H2 g2.s (r1.go g2 m2) rx
    | ok z μ2 =>
      rw [hz] at p1
      simp only [liftR_ok] at p1
      split at p1
      · rename_i c
        simp only [Bool.and_eq_true, Bool.not_eq_true'] at c
        intro v φ2 H2 g2 m2 rz
        have r2 := r1.go g2 m2
        have hi' : i ∉ ω := fun z => by have := c.1; simp [z] at this
        exact p1 _ φ2 ψ H2 g2.s (r2.set hi' (r2.sealed c.2 rz))
      · exact p1.elim
  · exact p.elim
end
/-! ### sealed values: no list that may change elsewhere -/
section
variable {X : Cx} {W : WX} {e : Expr} {es : List Expr} {m : MV} {ms : ML}
def mChk (p : FP.D → Bool) (m : MV) : MV := fun η μ => (m η μ).bind fun d μ1 => if p d = true then .ok d μ1 else .stuck
theorem es_of (h : EE X W e m) : ES X W e (mChk noL m) := h.imp fun σ H Q q => by
  obtain ⟨φ, χ, ψ, μ, η, rl, p⟩ := q
  refine rd_bind rl p fun φ1 H1 μ1 d x g1 r1 rx p1 => ?_
  obtain ⟨c, p1⟩ := p1.ite
  exact p1 _ _ _ .refl r1.mem (noL_rp c rx)
theorem es_ofF (h : EF X W e m) : ES X W e (mChk retOk m) := h.imp fun σ H Q q => by
  obtain ⟨φ, χ, ψ, μ, η, rl, p⟩ := q
  refine ⟨φ, χ, ψ, μ, η, rl, ?_⟩
  unfold mChk at p
  cases hm : m η μ with
  | exc x μ1 => rw [hm] at p; exact p
  | stuck => rw [hm] at p; exact p.elim
  | ok d μ1 =>
    rw [hm] at p
    simp only [FP.R.bind_ok] at p
    obtain ⟨c, p⟩ := p.ite
    intro v φ' N H' g m' hN rp hi
    refine p v φ' H' g m'.lessN (retOk_rp c rp fun l a e1 e2 => ?_)
    subst e1
    exact Gr.off rl.mem (hN a (hi a e2))
abbrev rLS (K : PySem.W.Frag) : List Addr → List Addr → List Addr → Hp → List FP.D → List V → Prop := fun φ χ ψ H d v => RpL K φ (χ ++ ψ) H d v
abbrev AS (X : Cx) (W : WX) (es : List Expr) (m : ML) : Prop := PA X es (rd X.K X.mg W (rLS X.K) m)
theorem as_nil : AS X W [] aNil := pa_nil.imp fun σ H Q q => by
  obtain ⟨φ, χ, ψ, μ, η, r, p⟩ := q
  exact p [] φ H .refl r.mem rfl
theorem as_cons (h : ES X W e m) (hr : AS X W es ms) (hs : starEach (e :: es) X.env = (false, eval e X.env) :: starEach es X.env := by rfl) : AS X W (e :: es) (aCons m ms) :=
  (pa_cons h hr hs).imp fun σ H Q q => by
    obtain ⟨φ, χ, ψ, μ, η, r, p⟩ := q
    refine rd_bind r p fun φ1 H1 μ1 d x g1 r1 rx p1 => ?_
    refine rd_bind r1 p1 fun φ2 H2 μ2 ds xs g2 r2 rxs p2 => ?_
    exact p2 (x :: xs) φ2 H2 .refl r2.mem (.cons (g2.rp rx) rxs)
end
/-! ### cells: a list that changes under several names -/
section
variable {X : Cx} {W : WX} {ω : List Nat} {e k : Expr} {es : List Expr} {m mk : MV} {ms : ML} {pos pos' : Pos} {i : Nat} {x : Str}
/-- x = [..], a new cell -/
def sCell (i : Nat) (ms : ML) : MS := fun η μ => liftR (ms η μ) η fun ds μ1 => if decide (ds.length ≤ 10000000) = true then .nx (η.set i (some (.ptr μ1.length))) (μ1 ++ [.lst ds]) else .stuck
theorem ss_cell {lpos : Pos} (hN : X.N.Nodup) (hi : X.N[i]? = some x) (hx : Loc X.env.scope x) (h : AS X W es ms) (ho : i ∉ ω := by decide) (hs : swapsWith (.List es lpos) (some (.Name x pos')) pos.line X.env = pure false := by rfl) (hf : X.fn x = true ∨ X.env.scope.names.lookup x = some .local := by first | exact .inl rfl | exact .inr rfl | assumption) :
    SS X W ω (.Assign [.Name x pos'] (.List es lpos) pos) (sCell i ms) := (ps_set hN hi hx (pe_lst h) hs hf).imp fun D σ H q => by
  obtain ⟨φ, χ, ψ0, ψ, μ, η, r, p⟩ := q
  refine rdS_bind r p fun φ1 H1 μ1 ds xs g1 r1 rx p1 => ?_
  split at p1
  · rename_i c
    refine ⟨line_le (by rw [rx.length]; exact of_decide_eq_true c), fun a ha => ?_⟩
    have g : Go φ1 H1 (φ1 ++ [a]) (upd H1 a (.lst xs)) := ⟨.newC ha, .new⟩
    have mem := r1.mem.push (c := .lst ds) (u := .lst xs) ha ⟨xs, upd_same, g.rpL rx⟩
    have r2 : RelS X.K X.mg ω (φ1 ++ [a]) χ ψ0 ψ (μ1 ++ [.lst ds]) η σ (upd H1 a (.lst xs)) := r1.go g mem
    refine p1 _ (φ1 ++ [a]) ψ _ g.s (r2.set ho ⟨a, ?_, rfl⟩)
    rw [← r1.mem.len]; simp
  · exact p1.elim
def setAt (l : List FP.D) (j : Int) (d : FP.D) : Option (List FP.D) := (ixN l.length j).map fun n => l.set n d
/-- x[k] = e, x a name of a cell -/
def sCellSet (i : Nat) (mk m : MV) : MS := fun η μ => liftR (m η μ) η fun d μ1 => match η[i]? with
  | some (some (.ptr c)) => liftR (mk η μ1) η fun kd μ2 => match kd with
    | .int j => match μ2[c]? with
      | some (.lst l) => match (if noL d = true then setAt l j d else none) with
        | some l' => .nx η (μ2.set c (.lst l'))
        | none => .stuck
      | _ => .stuck
    | _ => .stuck
  | _ => .stuck
theorem RelS.cellSet {K : PySem.W.Frag} {mg : Str → Option Value} {φ χ ψ0 ψ : List Addr} {μ : Mem} {η : Env'} {σ : L2.St} {H : Hp} {c : Nat} {a : Addr} {cl : Cell} {o u : HO} (r : RelS K mg ω φ χ ψ0 ψ μ η σ H) (ha : φ[c]? = some a) (ho : H a = some o) (hm : Mut (some o))
    (h : CellOk K mg φ (χ ++ (ψ0 ++ ψ)) (upd H a u) cl a) : RelS K mg ω φ χ ψ0 ψ (μ.set c cl) η σ (upd H a u) := by
  have g : Go φ H φ (upd H a u) := ⟨.mut (List.mem_of_getElem? ha) ho hm, .refl⟩
  exact r.go g (r.mem.set ha ho hm h)
theorem ss_cellSet {spos : Pos} (hv : PE X (.Name x pos') (tVar i)) (hk : EE X W k mk) (h : EE X W e m)
    (hs : swapsWithSole [.Subscript (.Name x pos') k spos] e pos.line X.env = pure false := by rfl) (hw : swappedStores [.Subscript (.Name x pos') k spos] e X.env = pure none := by rfl)
    (h1 : (assignEach [.Subscript (.Name x pos') k spos] X.env).map (·.2) = [assign (.Subscript (.Name x pos') k spos) X.env] := by rfl)
    (ha : ∀ v, assign (.Subscript (.Name x pos') k spos) X.env v = (do
      let ov ← holding [v] (eval (.Name x pos') X.env)
      let iv ← holding [v, ov] (eval k X.env)
      standAt spos
      holding [v, ov, iv] (setItem ov iv v)
      release [v, ov, iv] []) := by intro _; rfl) :
    SS X W ω (.Assign [.Subscript (.Name x pos') k spos] e pos) (sCellSet i mk m) := (ps_asg h (pg_sub hv hk set_list ha) hs hw h1).imp fun D σ H q => by
  obtain ⟨φ, χ, ψ0, ψ, μ, η, r, p⟩ := q
  refine rdS_bind r p fun φ1 H1 μ1 d y g1 r1 ry p1 => ?_
  split at p1
  · rename_i c hc
    obtain ⟨v, hv, a, ha, rfl⟩ := r1.rel.ats i _ hc
    refine ⟨_, hv, ?_⟩
    refine rdS_bind r1 p1 fun φ2 H2 μ2 kd ky g2 r2 rk p2 => ?_
    split at p2
    · rename_i j
      cases rk
      split at p2
      · rename_i l hl
        split at p2
        · rename_i l' hl'
          have ha2 : φ2[c]? = some a := g2.ext.at ha
          obtain ⟨xs, hxs, rx⟩ := r2.mem.ats c _ a hl ha2
          by_cases cn : noL d = true
          · rw [if_pos cn] at hl'
            unfold setAt at hl'
            cases hn : ixN l.length j with
            | none => rw [hn] at hl'; cases hl'
            | some n =>
              rw [hn] at hl'
              cases hl'
              refine ⟨a, xs, j, n, rfl, rfl, hxs, by rw [rx.length]; exact hn, ?_⟩
              have gm : Go φ2 H2 φ2 (upd H2 a (.lst (xs.set n y))) := ⟨.mut (List.mem_of_getElem? ha2) hxs trivial, .refl⟩
              have rs := RelS.cellSet (cl := .lst (l.set n d)) (u := .lst (xs.set n y)) r2 ha2 hxs trivial ⟨_, upd_same, gm.rpL (rx.set n (noL_rp cn (g2.rp ry)))⟩
              exact p2 σ φ2 ψ _ gm.s rs
          · rw [if_neg cn] at hl'; cases hl'
        · exact p2.elim
      · exact p2.elim
    · exact p2.elim
  · exact p1.elim
end
end FP
/-! Core7: defs and their calls. -/
namespace FP
open PySem PySem.Spec L2
open PyProof.Rows hiding St

abbrev FN := List D → Mem → R D
/-- what a def promises: it does what F says, for n arguments -/
def spF (K : PySem.W.Frag) (mg : Str → Option Value) (n : Nat) (F : FN) : Sp := fun vs H Q E => vs.length = n ∧ ∃ φ χ ψ μ ds, MemOk K mg φ (χ ++ ψ) μ H ∧ RpL K φ χ H ds vs ∧ PostF K mg (fun cls a _ H' => E cls a H') [] φ χ ψ H (F ds μ) Q
def startD (n : Nat) (ds : List D) : Env' := ds.map some ++ List.replicate (n - ds.length) none
def runF (n : Nat) (B : MS) : FN := fun ds μ => match B (startD n ds) μ with
  | .nx _ μ' => .ok .non μ'
  | .rt d μ' => .ok d μ'
  | .exc x _ μ' => .exc x μ'
  | _ => .stuck
section
variable {P : Program} {w : World} {K : PySem.W.Frag} {mg : Str → Option Value} {base : Heap}
theorem startD_get {n : Nat} {ds : List D} {i : Nat} {d : D} (h : (startD n ds)[i]? = some (some d)) : ds[i]? = some d := by
  unfold startD at h
  by_cases hi : i < ds.length
  · rw [List.getElem?_append_left (by simpa using hi), List.getElem?_map] at h
    cases e : ds[i]? with
    | none => rw [e] at h; cases h
    | some x => rw [e] at h; cases h; rfl
  · rw [List.getElem?_append_right (by simpa using hi), List.getElem?_replicate] at h
    split at h <;> cases h
theorem start_get {N : List Str} {vs : List V} {i : Nat} {v : V} (h : vs[i]? = some v) : (L2.start N vs)[i]? = some (some v) := by
  unfold L2.start
  have hi := (List.getElem?_eq_some_iff.mp h).1
  rw [List.getElem?_append_left (by simpa using hi), List.getElem?_map, h]
  rfl
theorem body_run {N ps : List Str} {sc : Scope} {ω : List Nat} {B : MS} {vs : List V} {H : Hp} {Q : VK} {E : XK} (S : FnScope N ps sc) (hω : ω.all (fun i => decide (ps.length ≤ i)) = true) (hsp : spF K mg ps.length (runF N.length B) vs H Q E) :
    rdS K mg (fun cls d _ H => E cls d H) ω B { nx := fun _ H' => Q .non H', rt := Q } (L2.start N vs) H := by
  obtain ⟨hlen, φ, χ, ψ, μ, ds, m, r, p⟩ := hsp
  have hdl : ds.length = ps.length := by rw [← r.length]; exact hlen
  have hle : ps.length ≤ N.length := by
    have := congrArg List.length S.pre
    rw [List.length_take] at this
    omega
  have rel : RelS K mg ω φ χ ψ [] μ (startD N.length ds) (L2.start N vs) H := by
    have noω : ∀ i d, i ∈ ω → (startD N.length ds)[i]? = some (some d) → False := fun i d hi e => by
      have h1 := startD_get e
      have h2 := (List.getElem?_eq_some_iff.mp h1).1
      have h3 := of_decide_eq_true (List.all_eq_true.mp hω i hi)
      omega
    refine ⟨by simpa using m, (fun a z => nomatch z), (fun _ => rfl), ?_, fun i d hi e => ?_, fun i d hi e => (noω i d hi e).elim, fun i j d e v hi hj hij e1 => (noω i d hi e1).elim⟩
    · unfold startD L2.start
      simp [r.length]
    · obtain ⟨v, hv, rv⟩ := r.get (startD_get e)
      exact ⟨v, start_get hv, by simpa using rv⟩
  refine ⟨φ, χ, ψ, [], μ, _, rel, ?_⟩
  unfold runF at p
  have toGo : ∀ {φ' ψ' : List Addr} {H' : Hp}, GoS φ [] H φ' ψ' H' → Go φ H φ' H' := fun {φ' ψ' H'} g =>
    ⟨g.gr.weak (fun a h => by simpa using h) fun a h => List.mem_append_left _ h, g.ext⟩
  cases hB : B (startD N.length ds) μ with
  | nx η' μ' =>
    rw [hB] at p
    intro σ' φ' ψ' H' g r'
    refine p .non φ' [] H' (toGo g) (r'.mem.less fun a z => ?_) (fun a z => nomatch z) rfl trivial
    simp only [List.mem_append, List.append_nil] at z ⊢
    rcases z with z | z <;> simp [z]
  | rt d μ' =>
    rw [hB] at p
    intro v φ' ψ' H' g m' rp hi
    exact p v φ' ψ' H' (toGo g) m' (fun a z => (g.pψ a z).elim (fun z => nomatch z) id) (rp.less fun a z => List.mem_append_left _ z) hi
  | exc x' η' μ' =>
    rw [hB] at p
    intro cls a σ' φ' ψ' H' g r' rx
    exact p cls a φ' H' (toGo g) (r'.mem.less fun a z => by
      simp only [List.mem_append] at z ⊢
      rcases z with z | z <;> simp [z]) rx
  | bk η' μ' => rw [hB] at p; exact p.elim
  | ct η' μ' => rw [hB] at p; exact p.elim
  | stuck => rw [hB] at p; exact p.elim
theorem okF {x qual : Str} {st : Stmt} {f : Addr} {fd : FuncData} {N ps : List Str} {k : Nat} {ω : List Nat} {B : MS} (F : Fun K x qual st f fd) (S : FnScope N ps (defScope st)) (hω : ω.all (fun i => decide (ps.length ≤ i)) = true)
    (hb : ∀ (cdv : Value) (A : Around) (outer : List Env) (s : Shared) (H : Hp) (E : XK), Room k (A.deeper (envOfC qual (defScope st) s.heap.objs.size f cdv)) →
      SSs (cxOf (L2.CX P w) P w K mg base N qual (defScope st) f cdv A outer s H E) (fun cls d _ H => E cls d H) ω (defBody st) B) : FnOk P w K mg base (L2.CX P w) (k + 1) f fd ps (spF K mg ps.length (runF N.length B)) := by
  refine F.okX S (fun vs H Q E h => h.1) fun cdv A outer s H vs Q E hr hsp => ⟨_, hb cdv A outer s H E hr, body_run S hω hsp⟩
/-- a def that cannot be called at all -/
theorem ok0 {f : Addr} {fd : FuncData} {ps : List Str} {k n : Nat} (F : FN) (hF : ∀ ds μ, F ds μ = .stuck) (hn : n = ps.length) : FnOk P w K mg base (L2.CX P w) k f fd ps (spF K mg n F) := by
  refine ⟨fun vs H Q E h => h.1.trans hn, fun A outer s H args us vs Q E _ _ _ _ h => ?_⟩
  obtain ⟨_, φ, χ, ψ, μ, ds, m, r, p⟩ := h
  rw [hF] at p
  exact p.elim
end
/-! ### calls -/
def mFn (F : FN) (n : Nat) (dds : List D) (ms : ML) : MV := fun η μ => (ms η μ).bind fun ds μ1 => if ds.length + dds.length = n then F (ds ++ dds) μ1 else .stuck
section
variable {X : Cx} {W : WX} {e : Expr} {es : List Expr} {ms : ML} {x : Str} {p pos : Pos} {k n : Nat} {f : Addr} {fd : FuncData} {ps : List Str} {F : FN} {dds : List D} {dvs : List V} {ds : List Value}
theorem ef_call (G : FnOk X.prog X.w X.K X.mg X.base (L2.CX X.prog X.w) k f fd ps (spF X.K X.mg n F)) (hr : Room k X.A) (hm : X.mg x = some (.ref f)) (hk : PySem.W.keepIn X.K (.ref f) = true) (hb : Binds X.K fd ps ds) (hd : Vals dvs ds) (tk : Takes X W)
    (ha : AA X W (e :: es) ms) (hdd : ∀ φ χ H, RpL X.K φ χ H dds dvs) (hg : Gl X x := by rfl) (hdb : (x == ("__debug__" : Str)) = false := by decide)
    (he : starEach (e :: es) X.env = (false, eval e X.env) :: starEach es X.env := by rfl) (hpl : (backTo pos (starEach es X.env)).any (·.1) = false := by rfl) : EF X W (.Call (.Name x p) (e :: es) [] pos) (mFn F n dds ms) :=
  (pe_callSD (E := WE W) G hr hg hm hk hb hd (fun σ => passAt tk σ) ha hdb he hpl).imp fun σ H Q q => by
    obtain ⟨φ, χ, ψ, μ, η, rl, p⟩ := q
    refine ⟨φ, χ, ψ, μ, η, rl, ?_⟩
    unfold mFn at p
    cases hms : ms η μ with
    | exc x' μ1 => rw [hms] at p; exact p
    | stuck => rw [hms] at p; exact p
    | ok as μ1 =>
      rw [hms] at p
      simp only [FP.R.bind_ok] at p
      split at p
      · rename_i hn
        intro xs φ1 H1 g1 m1 rx
        refine ⟨by rw [List.length_append, rx.length, (hdd φ χ H).length]; exact hn, φ1, χ, ψ, μ1, as ++ dds, m1, rx.append (hdd _ _ _), ?_⟩
        cases hF : F (as ++ dds) μ1 with
        | ok d μ2 =>
          rw [hF] at p
          exact fun v φ2 N H2 g2 m2 hN rp hi => p v φ2 N H2 (g1.trans g2) m2 (fun a z => none_back g1.gr (hN a z)) rp hi
        | exc x' μ2 =>
          rw [hF] at p
          exact fun c a φ2 H2 g2 m2 rx => p c a φ2 H2 (g1.trans g2) m2 rx
        | stuck => rw [hF] at p; exact p
      · exact p.elim
/-! ### new lists -/
theorem ef_lst {ms : ML} (h : AA X W es ms) : EF X W (.List es pos) (mLst ms) := (pe_lst h).imp fun σ H Q q => by
  obtain ⟨φ, χ, ψ, μ, η, rl, p⟩ := q
  refine ⟨φ, χ, ψ, μ, η, rl, ?_⟩
  unfold mLst at p
  cases hms : ms η μ with
  | exc x' μ1 => rw [hms] at p; exact p
  | stuck => rw [hms] at p; exact p
  | ok as μ1 =>
    rw [hms] at p
    simp only [FP.R.bind_ok] at p
    split at p
    · rename_i c
      intro xs φ1 H1 g1 m1 rx
      refine ⟨line_le (by rw [rx.length]; exact c), fun a ha => ?_⟩
      have g : Go φ1 H1 φ1 (upd H1 a (.lst xs)) := .new ha
      refine p _ φ1 [a] _ (g1.trans g) ((m1.hid ha).less fun b z => ?_) (fun b z => by simp at z; rw [z]; exact none_back g1.gr ha) ⟨a, xs, rfl, ⟨Gr.notin m1 ha, Gr.offχ m1 ha⟩, upd_same, g.rpL rx⟩ fun b e => by cases e; simp
      simp only [List.mem_append, List.mem_cons, List.not_mem_nil, or_false] at z ⊢
      rcases z with z | z | z <;> simp [z]
    · exact p.elim
end
end FP
/-! Core8: dicts, tuples of dicts, texts' methods, lists made anew. -/
namespace FP
open PySem PySem.Spec L2 PySem.W
open PyProof.Rows hiding St

/-! ### tuple(d) -/
section
variable {prog : Program} {w : World} {A : Around} {E : Value → Shared → Prop} {s : Shared} {T : String} {r d : Addr} {n : Nat} {P : Nat → Value → Prop} {OK : Heap → Prop}
theorem collect_src (K : KdlSrc prog w T r d n P OK) {Q : List Value → Shared → Prop} (hh : A.handled = none) (hok : OK s.heap) (hr : r < s.heap.objs.size) (hd : d < s.heap.objs.size) (hn : n ≤ sizeLine)
    (hQ : ∀ (h' : Heap) (tk : Nat) (acc : Array Value), (∀ b o, s.heap.get? b = some o → h'.get? b = some o) → ItemsOf P acc n → Q acc.toList { s with heap := h', toks := tk }) :
    wpAny (model prog w) A (collect (.ref r)) Q E s := by
  unfold collect
  refine wpAny_bind (wpAny_runValue (codeAny_builtin F.entry_proto_collect ?_))
  rw [Around.under_plainId F.plain_proto_collect _]
  show wpAny _ A.in1 (newList [] >>= fun l => again (.builtin "list.__iadd__" ⟨[l, .ref r], []⟩)) _ _ s
  refine wpAny_bind (wpAny_newObj_type ?_)
  refine wpAny_pure ⟨plainId_quiet F.plain_list_iadd _, codeAny_builtin F.entry_list_iadd ?_⟩
  rw [Around.under_plainId F.plain_list_iadd _]
  show wpAny _ A.in1 (Builtin.List.listExtendWith (.ref s.heap.objs.size) (.ref r) (.ref s.heap.objs.size)) _ _ _
  have hS : (s.heap.push { cls := .type "list", data := .seq ([] : List Value).toArray }).get? s.heap.objs.size = some { cls := .type "list", data := .seq #[] 0 } := Heap.get?_push_size _ rfl
  refine wpAny_mono (kdl_extend (A := A) (R := fun rr s' => rr = .ok (.ret (.ref s.heap.objs.size)) ∧ ∃ (h' : Heap) (tk : Nat) (acc : Array Value) (c' : Nat), s' = { s with heap := h', toks := tk } ∧
      (∀ b o, s.heap.get? b = some o → h'.get? b = some o) ∧ h'.get? s.heap.objs.size = some { cls := .type "list", dict := none, data := .seq acc c', slots := #[] } ∧ ItemsOf P acc n)
    (s := { s with heap := s.heap.push { cls := .type "list", data := .seq ([] : List Value).toArray } }) K hh (K.keep _ _ hok fun b _ o q => Heap.get?_push_of_some _ q) s.heap.objs.size (Nat.ne_of_gt hr) (Nat.ne_of_gt hd) _ 0 hS
    (fun h' tk acc c' hk e hi => ⟨rfl, h', tk, acc, c', rfl, fun b o q => hk b o (Nat.ne_of_lt (Heap.lt_size q)) (Heap.get?_push_of_some _ q), e, hi⟩) hn) (fun fin s' h => ?_) (fun e s' h => ?_)
  · cases fin with
    | done f =>
      obtain ⟨e, h', tk, acc, c', rfl, hk, hS', hi⟩ := h
      cases e
      show wpAny _ A (load s.heap.objs.size >>= _) _ _ _
      exact wpAny_bind (wpAny_load hS' (wpAny_pure (hQ h' tk acc hk hi)))
    | again c' =>
      refine ⟨h.1, codeAny_mono h.2 fun rr s'' hr' => ?_⟩
      obtain ⟨rfl, h', tk, acc, c', rfl, hk, hS', hi⟩ := hr'
      show wpAny _ A (load s.heap.objs.size >>= _) _ _ _
      exact wpAny_bind (wpAny_load hS' (wpAny_pure (hQ h' tk acc hk hi)))
  · exact absurd h.1 (by simp)
theorem code_tuple_new_src (K : KdlSrc prog w T r d n P OK) {Q₁ : Value → Shared → Prop} (hh : A.handled = none) (hok : OK s.heap) (hr : r < s.heap.objs.size) (hd : d < s.heap.objs.size) (hn : n ≤ sizeLine) (hT : (Value.type T == Value.type "tuple") = false)
    (h : ∀ (h' : Heap) (tk : Nat) (acc : Array Value), (∀ b o, s.heap.get? b = some o → h'.get? b = some o) → ItemsOf P acc n →
      Q₁ (.ref h'.objs.size) { s with heap := h'.push { cls := .type "tuple", data := .seq acc }, toks := tk }) :
    codeAny (model prog w) A (.call (.builtin "tuple.__new__") ⟨[.type "tuple", .ref r], []⟩) (wants Q₁ E) s := by
  refine codeAny_of_tree ?_
  show wpAny _ A.in1 (do checkBuiltinCall "tuple.__new__" ⟨[.type "tuple", .ref r], []⟩; again (.builtin "tuple.__new__" ⟨[.type "tuple", .ref r], []⟩)) _ _ s
  refine wpAny_bind (wpAny_of_eq (F.newCall_tuple_1 _) (wpAny_pure ⟨plainId_quiet F.plain_tuple_new _, codeAny_builtin F.entry_tuple_new ?_⟩))
  rw [Around.under_plainId F.plain_tuple_new _]
  have hsub := sub_tuple_self
  have hinit := init_tuple_lookup
  have hmh := madeHere_tuple
  have hTI : s.TypeIs (.ref r) T := K.type s hok
  have hh1 : A.in1.handled = none := hh
  have hT2 := K.notTuple
  wp_walk using wpAny_typeOf hTI, collect_src (A := A.in1) K hh1 hok hr hd hn
  intro h' tk acc hk hacc
  show wpAny _ _ (Builtin.Tuple.tupleExact acc.toList.toArray >>= fun v => ret v) _ _ _
  unfold Builtin.Tuple.tupleExact
  refine wpAny_bind (wpAny_newObj_type ?_ (by show acc.toList.toArray.size ≤ sizeLine; simp only [Array.toArray_toList]; rw [hacc.1]; exact hn))
  refine wpAny_pure ?_
  have e : acc.toList.toArray = acc := by simp
  rw [e]
  exact h h' tk acc hk hacc
theorem call_tuple_src (K : KdlSrc prog w T r d n P OK) {Q : Value → Shared → Prop} (hh : A.handled = none) (hok : OK s.heap) (hr : r < s.heap.objs.size) (hd : d < s.heap.objs.size) (hn : n ≤ sizeLine)
    (hQ : ∀ (h' : Heap) (tk : Nat) (acc : Array Value), (∀ b o, s.heap.get? b = some o → h'.get? b = some o) → ItemsOf P acc n →
      Q (.ref h'.objs.size) { s with heap := h'.push { cls := .type "tuple", data := .seq acc }, toks := tk }) :
    wpAny (model prog w) A (call (.type "tuple") [.ref r]) Q E s := by
  refine callType_codes (Q₁ := fun obj s₁ => s₁.TypeIs obj "tuple" ∧ Q obj s₁) F.called_tuple (F.typeCall_tuple_1 _) F.entry_object_init
    (code_tuple_new_src (A := A.in1) K hh hok hr hd hn K.notTuple fun h' tk acc hk hacc => ⟨⟨_, Heap.get?_push_size _ rfl, rfl⟩, hQ h' tk acc hk hacc⟩) fun obj s₁ h₁ => ?_
  exact ⟨h₁.1, F.args_object_init_2 obj _, object_init_meets F.called_tuple.init.lookup F.called_tuple.made (by decide) prog w A.in1 _ s₁ ⟨h₁.1, rfl, h₁.2⟩⟩
end
def rTupD : List V → Hp → VK → Prop := fun xs H Q => ∃ p kvs, xs = [V.ref p] ∧ H p = some (.dK kvs) ∧ ∀ q, H q = none → Q (.ref q) (upd H q (.tup (kvs.map fun kv => kV kv.1)))
theorem call_tuple_dK {X : Cx} (hc : X.calm = true) : CallR X (.type "tuple") rTupD := by
  intro pins s σ H xs us Q I r h
  obtain ⟨p, kvs, e, hk, q⟩ := h
  subst e
  obtain ⟨u, eu, rx⟩ := vals1 r
  subst eu
  obtain rfl : u = Value.ref p := rx
  obtain ⟨z, lo, vs, rk, hd⟩ := (show ObjOk X.prog X.w H s.heap p (.dK kvs) from I.hok p _ hk)
  obtain ⟨ep, hat⟩ := hd.dictAt
  have hl : kvs.length = vs.length := Paired.length rk
  have hp : p < s.heap.objs.size := I.hok.lt hk
  refine call_tuple_src (PySem.W.kdl_dict (knd := mixKind X.prog X.w) (kvs := vs) (ep := ep) lo) (I.ok.hd hc) hat hp hp (by rw [← hl]; exact z) fun h' tk acc' hkeep hacc => ?_
  have I1 : Inv X pins σ H { s with heap := h', toks := tk } := I.kept hkeep
  refine ⟨.ref h'.objs.size, upd H h'.objs.size (.tup (kvs.map fun kv => kV kv.1)), I1.laid (t' := tk) (fun c o e => Heap.get?_push_of_some _ e) (Nat.le_refl _) (show ObjOk X.prog X.w _ _ _ (.tup (kvs.map fun kv => kV kv.1)) from ⟨?_, acc'.toList, ?_, ?_⟩), rfl, q _ (I1.hok.fresh (Nat.le_refl _))⟩
  · rw [List.length_map]; exact z
  · have el : acc'.toList.length = acc'.size := by simp
    refine vals_of_at (by rw [List.length_map, el, hacc.1, hl]) fun j x w h1 h2 => ?_
    obtain ⟨k, y, hky, hi⟩ := hacc.2 j w (by rw [← Array.getElem?_toList]; exact h2)
    have e1 : (kvs.map (·.1))[j]? = some k := by
      rw [KV.keys rk, List.getElem?_map, hky] <;> rfl
    have e2 : (kvs.map fun kv => kV kv.1)[j]? = some (kV k) := by
      have e3 : (kvs.map fun kv => kV kv.1) = (kvs.map (·.1)).map kV := by rw [List.map_map] <;> rfl
      rw [e3, List.getElem?_map, e1] <;> rfl
    rw [e2] at h1
    cases h1
    exact keyIs_rel hi
  · rw [Array.toArray_toList]; exact IsTup.new _ _
/-! ### dict(t), t a plain tuple of pairs -/
theorem pick_us {T : Addr → Value → Key × Value → Prop} : ∀ (prs : List (Key × Value)) (ps : List Addr), (∀ (j : Nat) (q : Key × Value), prs[j]? = some q → ∃ (b : Addr) (u : Value), ps[j]? = some b ∧ T b u q) →
    ∃ us : List Value, us.length = prs.length ∧ ∀ (j : Nat) (q : Key × Value) (u : Value), prs[j]? = some q → us[j]? = some u → ∃ b, ps[j]? = some b ∧ T b u q
  | [], _, _ => ⟨[], rfl, fun j q u h => by simp at h⟩
  | q :: prs, ps, h => by
    obtain ⟨b, u, hb, t⟩ := h 0 q rfl
    cases ps with
    | nil => simp at hb
    | cons b' ps =>
      cases hb
      obtain ⟨us, hl, hu⟩ := pick_us prs ps fun j q' hq => by
        obtain ⟨b2, u2, h1, h2⟩ := h (j + 1) q' (by simpa using hq)
        exact ⟨b2, u2, by simpa using h1, h2⟩
      refine ⟨u :: us, by simp [hl], fun j q' u' h1 h2 => ?_⟩
      cases j with
      | zero => cases h1; cases h2; exact ⟨_, rfl, t⟩
      | succ j =>
        obtain ⟨b2, e1, e2⟩ := hu j q' u' (by simpa using h1) (by simpa using h2)
        exact ⟨b2, by simpa using e1, e2⟩
def rDictT (K : PySem.W.Frag) : List V → Hp → VK → Prop := fun xs H Q => ∃ (a : Addr) (o : Obj) (ps : List Addr) (kvs : List (Key × V)), xs = [V.ref a] ∧ H a = some (.frz o (.tup (ps.map V.ref))) ∧ o.dict = none ∧ Paired (fun p kv => SqT K H p [kV kv.1, kv.2]) ps kvs ∧
    ∀ p, H p = none → Q (.ref p) (upd H p (.dK (mergeK [] kvs)))
theorem call_dictT {X : Cx} (hcalm : X.calm = true) : CallR X (.type "dict") (rDictT X.K) := by
  intro pins s σ H xs us Q I r q
  obtain ⟨a, o, ps, kvs, ex, ha, hdn, hp, q⟩ := q
  subst ex
  obtain ⟨u, eu, rx⟩ := vals1 r
  subst eu
  cases rx
  obtain ⟨ho, hz, its, rv, o', ho', hc', n, hdat⟩ := (show ObjOk X.prog X.w H s.heap a (.frz o (.tup (ps.map V.ref))) from I.hok a _ ha)
  rw [ho] at ho'
  cases ho'
  have ei := refs_at rv
  subst ei
  rw [List.length_map] at hz
  obtain ⟨prs, rel, hl, hpr⟩ := pairs_of I hp
  obtain ⟨us, hul, hus⟩ := pick_us (T := fun b u q => IsTup s.heap b #[u, q.2] ∧ keyIs q.1 u = true) prs ps hpr
  let psV : List (Value × Value) := us.zip (prs.map (·.2))
  have hpl : psV.length = prs.length := by simp [psV, hul]
  have get : ∀ j k v, psV[j]? = some (k, v) → ∃ (q : Key × Value) (b : Addr), prs[j]? = some q ∧ q.2 = v ∧ ps[j]? = some b ∧ IsTup s.heap b #[k, v] ∧ keyIs q.1 k = true := fun j k v e => by
    obtain ⟨h1, h2⟩ := List.getElem?_zip_eq_some.mp e
    rw [List.getElem?_map] at h2
    cases hq : prs[j]? with
    | none => rw [hq] at h2; cases h2
    | some q =>
      rw [hq] at h2
      cases h2
      obtain ⟨b, hb, h3, h4⟩ := hus j q k hq h1
      exact ⟨q, b, hq, rfl, hb, h3, h4⟩
  refine PySem.call_dict_pairs (knd := mixKind X.prog X.w) (kvs := prs) (PairArg.tuple a (ps.map Value.ref).toArray (fun j => ps.getD j 0) psV) (I.ok.hd hcalm) ⟨⟨o, n, ho, hc', hdn, hdat⟩, by simp [hpl, hl], fun j k v e => ?_⟩ ⟨hpl.symm, fun i key v e => ?_⟩ (by rw [hpl, hl]; exact hz) fun h' tk hd' k => ?_
  · obtain ⟨q', b, h1, h2, h3, h4, h5⟩ := get j k v e
    have eb : ps.getD j 0 = b := by simp [List.getD, h3]
    refine ⟨by simp [h3], ?_⟩
    show PairAt s.heap (ps.getD j 0) k v
    rw [eb]
    exact .inl h4
  · obtain ⟨q', b, h1, h2, h3, h4, h5⟩ := get i key v e
    exact ⟨q'.1, by rw [h1, ← h2], h5⟩
  · have k' : ∀ b o, s.heap.get? b = some o → h'.get? b = some o := fun b o e => k b o (by simp) e
    have hm : (s.heap.objs.size == sysModules) = false := beq_eq_false_iff_ne.mpr (Nat.ne_of_gt I.big)
    have hlen : (mergeK [] kvs).length ≤ sizeLine := by
      refine Nat.le_trans (length_mergeK kvs []) ?_
      rw [List.length_nil, Nat.zero_add, rel.length, hl]
      exact hz
    exact ⟨.ref s.heap.objs.size, upd H s.heap.objs.size (.dK (mergeK [] kvs)), I.laid (t' := tk) k' (Nat.le_refl _) (show ObjOk X.prog X.w _ _ _ (.dK (mergeK [] kvs)) from ⟨hlen, hm, merged [] prs, KV.merge rel .nil, hd'⟩), rfl, q _ (I.hok.fresh (Nat.le_refl _))⟩
/-! plain tuples: a display, its slice -/
def tTupP (t : TA) : TE := fun σ H Q => t σ H fun xs H1 => xs.length ≤ sizeLine ∧ ∀ p o, H1 p = none → o.dict = none → Q (.ref p) (upd H1 p (.frz o (.tup xs)))
theorem pe_tupP {X : Cx} {es : List Expr} {t : TA} {k pos} (h : PA X es t) : PE X (.Tuple es k pos) (tTupP t) := by
  refine ⟨fun pins s σ H Q I hq => ?_⟩
  refine wpAny_Tuple_spliced (thn (h.run pos pins s σ H _ I hq) fun us s1 ⟨xs, H1, I1, r, z, q⟩ => ⟨by rw [← r.length]; exact z, ?_⟩)
  have hf : H1 s1.heap.objs.size = none := I1.hok.fresh (Nat.le_refl _)
  have hg := Heap.get?_push_size s1.heap (o := { cls := .type "tuple", data := .seq us.toArray }) rfl
  refine ⟨.ref s1.heap.objs.size, upd H1 s1.heap.objs.size (.frz { cls := .type "tuple", data := .seq us.toArray } (.tup xs)), I1.laid (t' := s1.toks) (fun b u e => Heap.get?_push_of_some _ e) (Nat.le_refl _) ?_, rfl, q _ _ hf rfl⟩
  exact ⟨hg, z, us, r, ⟨_, hg, rfl, _, rfl⟩⟩
def mTupP (ms : ML) : MV := fun η μ => (ms η μ).bind fun ds μ1 => if ds.length ≤ 10000000 then .ok (.ptu ds) μ1 else .stuck
theorem ee_tupP {X : Cx} {W : WX} {es : List Expr} {ms : ML} {k pos} (h : AA X W es ms) : EE X W (.Tuple es k pos) (mTupP ms) := (pe_tupP h).imp fun σ H Q q => by
  obtain ⟨φ, χ, ψ, μ, η, r, p⟩ := q
  refine rd_bind r p fun φ1 H1 μ1 ds xs g1 r1 rx p1 => ?_
  obtain ⟨c, p1⟩ := p1.ite
  refine ⟨line_le (by rw [rx.length]; exact c), fun a o ha hd => ?_⟩
  have g : Go φ1 H1 φ1 (upd H1 a (.frz o (.tup xs))) := .new ha
  exact p1 _ φ1 _ g (r1.mem.new ha) ⟨a, xs, rfl, ⟨o, upd_same, hd⟩, g.rpL rx⟩
/-! ### d as an argument: dict(t), tuple(d) -/
def pairD : D → Option (Key × D)
  | .tup [a, b] => (keyD a).map fun k => (k, b)
  | _ => none
def pairsD : List D → Option (List Key × List D)
  | [] => some ([], [])
  | d :: l => match pairD d, pairsD l with
    | some (k, b), some (ks, bs) => some (k :: ks, b :: bs)
    | _, _ => none
/-- later ones win -/
def mergeD : List Key → List D → List Key → List D → List Key × List D
  | ks, ds, k :: more, d :: md => mergeD (dputK ks k) (dputV ks ds k d) more md
  | ks, ds, _, _ => (ks, ds)
theorem merge_rp {K : PySem.W.Frag} {φ χ : List Addr} {H : Hp} : ∀ {more : List Key} {md : List D} {xm : List V} {ks : List Key} {ds : List D} {xs : List V}, ks.length = ds.length → RpL K φ χ H ds xs → more.length = md.length → RpL K φ χ H md xm →
    ∃ ys, mergeK (ks.zip xs) (more.zip xm) = (mergeD ks ds more md).1.zip ys ∧ (mergeD ks ds more md).1.length = (mergeD ks ds more md).2.length ∧ RpL K φ χ H (mergeD ks ds more md).2 ys
  | [], [], _, ks, ds, xs, hl, r, _, rm => by cases rm; exact ⟨xs, rfl, hl, r⟩
  | [], _ :: _, _, _, _, _, _, _, h, _ => by simp at h
  | _ :: _, [], _, _, _, _, _, _, h, _ => by simp at h
  | k :: more, d :: md, _, ks, ds, xs, hl, r, h, rm => by
    obtain ⟨x, q, rfl, r1, r2⟩ := rm
    obtain ⟨ys, e1, e2, e3⟩ := dput_rp (k := k) (d := d) hl r r1
    obtain ⟨zs, f1, f2, f3⟩ := merge_rp (more := more) (md := md) e2 e3 (by simpa using h) r2
    refine ⟨zs, ?_, f2, f3⟩
    show mergeK (putK (ks.zip xs) k x) (more.zip q) = _
    rw [e1]; exact f1
theorem pairs_rp {K : PySem.W.Frag} {φ χ : List Addr} {H : Hp} : ∀ {l : List D} {xs : List V} {ks : List Key} {bs : List D}, pairsD l = some (ks, bs) → RpL K φ χ H l xs →
    ∃ (ps : List Addr) (ys : List V), xs = ps.map V.ref ∧ ks.length = bs.length ∧ RpL K φ χ H bs ys ∧ Paired (fun p (kv : Key × V) => SqT K H p [kV kv.1, kv.2]) ps (ks.zip ys)
  | [], _, _, _, h, r => by cases h; cases r; exact ⟨[], [], rfl, rfl, rfl, .nil⟩
  | d :: l, _, _, _, h, r => by
    obtain ⟨x, q, rfl, r1, r2⟩ := r
    unfold pairsD at h
    cases hp : pairD d with
    | none => rw [hp] at h; cases h
    | some kb =>
      obtain ⟨k, b⟩ := kb
      cases hq : pairsD l with
      | none => rw [hp, hq] at h; cases h
      | some kbs =>
        obtain ⟨ks, bs⟩ := kbs
        rw [hp, hq] at h
        cases h
        obtain ⟨ps, ys, rfl, hl, rb, pr⟩ := pairs_rp hq r2
        unfold pairD at hp
        split at hp
        · rename_i a1 b1
          cases hk : keyD a1 with
          | none => rw [hk] at hp; cases hp
          | some k' =>
            rw [hk] at hp
            cases hp
            obtain ⟨p, xs2, rfl, hs, rr⟩ := r1
            obtain ⟨x1, x2, rfl, h1, h2⟩ := rr.two
            have e1 := keyD_rp hk h1
            subst e1
            exact ⟨p :: ps, x2 :: ys, rfl, by simp [hl], .cons h2 rb, .cons hs pr⟩
        · cases hp
def fDict (ds : List D) (μ : Mem) : R D := match ds with
  | [.ptu l] => match pairsD l with
    | some (ks, bs) => .ok (.dic (mergeD [] [] ks bs).1 (mergeD [] [] ks bs).2) μ
    | none => .stuck
  | _ => .stuck
theorem cs_dict {K : PySem.W.Frag} {mg : Str → Option Value} : CallS K mg fDict (rDictT K) := by
  intro W φ χ ψ μ σ H ds xs Q m r p
  unfold fDict at p
  split at p
  · rename_i l
    split at p
    · rename_i ks bs hl
      obtain ⟨x, rfl, rx⟩ := r.one
      obtain ⟨a, ys, rfl, ⟨o, ho, hd⟩, q⟩ := rx
      obtain ⟨ps, zs, rfl, hlen, rb, pr⟩ := pairs_rp hl q
      obtain ⟨us, e1, e2, e3⟩ := merge_rp (ks := []) (ds := []) (xs := []) rfl rfl hlen rb
      refine ⟨a, o, ps, _, rfl, ho, hd, pr, fun t ht => ?_⟩
      have e1' : mergeK [] (ks.zip zs) = (mergeD [] [] ks bs).1.zip us := e1
      rw [e1']
      have g : Go φ H φ (upd H t (.dK ((mergeD [] [] ks bs).1.zip us))) := .new ht
      exact p _ _ _ g (m.new ht) ⟨t, us, rfl, ⟨Gr.notin m ht, Gr.offχ m ht⟩, upd_same, e2, g.rpL e3⟩
    · exact p.elim
  · exact p.elim
/-- the keys and values of a dict -/
def dicOf (μ : Mem) : D → Option (List Key × List D)
  | .dic ks ds => some (ks, ds)
  | .ptr k => match μ[k]? with
    | some (.dic ks ds) => some (ks, ds)
    | _ => none
  | _ => none
theorem dicOf_rp {K : PySem.W.Frag} {mg : Str → Option Value} {φ χ ψ : List Addr} {H : Hp} {μ : Mem} {d : D} {v : V} {ks : List Key} {ds : List D} (m : MemOk K mg φ (χ ++ ψ) μ H) (r : Rp K φ χ H d v) (e : dicOf μ d = some (ks, ds)) :
    ∃ a xs, v = .ref a ∧ H a = some (.dK (ks.zip xs)) ∧ ks.length = ds.length ∧ RpL K φ χ H ds xs := by
  cases d with
  | dic ks' ds' =>
    cases e
    obtain ⟨a, xs, e, _, h, l, q⟩ := r
    exact ⟨a, xs, e, h, l, q⟩
  | ptr k =>
    unfold dicOf at e
    simp only at e
    split at e
    · rename_i ks' ds' hl
      cases e
      obtain ⟨a, ha, rfl⟩ := r
      obtain ⟨xs, e1, l, q⟩ := m.ats k _ a hl ha
      exact ⟨a, xs, rfl, e1, l, q.less fun _ z => List.mem_append_left _ z⟩
    · cases e
  | _ => cases e
def keyV : Key → D
  | .inl i => .int i
  | .inr s => .str s
theorem keys_rp {K : PySem.W.Frag} {φ χ : List Addr} {H : Hp} : ∀ (ks : List Key), RpL K φ χ H (ks.map keyV) (ks.map kV)
  | [] => rfl
  | .inl i :: ks => .cons rfl (keys_rp ks)
  | .inr s :: ks => .cons rfl (keys_rp ks)
/-- tuple of a list, a tuple, a dict -/
def fTuple' (ds : List D) (μ : Mem) : R D := match ds with
  | [d] => match dicOf μ d with
    | some (ks, _) => .ok (.tup (ks.map keyV)) μ
    | none => fTuple [d] μ
  | _ => .stuck
theorem or_tuple {X : Cx} (hc : X.calm = true) : CallR X (.type "tuple") (fun xs H Q => rTupD xs H Q ∨ (∃ p ys, xs = [.ref p] ∧ ((SqL X.K H p ys ∧ ∀ l, H l = none → Q (.ref l) (upd H l (.tup ys))) ∨ (SqT X.K H p ys ∧ Q (.ref p) H)))) := (call_tuple_dK hc).or call_tuple_of
theorem cs_tuple' {K : PySem.W.Frag} {mg : Str → Option Value} : CallS K mg fTuple' (fun xs H Q => rTupD xs H Q ∨ (∃ p ys, xs = [.ref p] ∧ ((SqL K H p ys ∧ ∀ l, H l = none → Q (.ref l) (upd H l (.tup ys))) ∨ (SqT K H p ys ∧ Q (.ref p) H)))) := by
  intro W φ χ ψ μ σ H ds xs Q m r p
  unfold fTuple' at p
  split at p
  · split at p
    · rename_i ks ds' hd
      obtain ⟨x, rfl, rx⟩ := r.one
      obtain ⟨a, ys, rfl, hq, hl, q⟩ := dicOf_rp m rx hd
      refine .inl ⟨a, _, rfl, hq, fun t ht => ?_⟩
      have e : ((ks.zip ys).map fun kv => kV kv.1) = ks.map kV := by
        have : (ks.zip ys).map Prod.fst = ks := List.map_fst_zip (by rw [q.length, hl]; exact Nat.le_refl _)
        conv => rhs; rw [← this]
        rw [List.map_map]; rfl
      rw [e]
      have g : Go φ H φ (upd H t (.tup (ks.map kV))) := .new ht
      exact p _ _ _ g (m.new ht) ⟨t, _, rfl, .of upd_same, keys_rp ks⟩
    · exact .inr (cs_tuple W φ χ ψ μ σ H _ _ Q m r p)
  · exact p.elim
end FP
/-! Core9: subscripts and in of dicts, texts' methods, new lists of every form. -/
namespace FP
open PySem PySem.Spec L2 PySem.W
open PyProof.Rows hiding St

theorem rd_bindE {α β γ δ : Type} {K : PySem.W.Frag} {mg : Str → Option Value} {W : WX} {rep : List Addr → List Addr → List Addr → Hp → α → β → Prop} {rep' : List Addr → List Addr → List Addr → Hp → γ → δ → Prop} {σ : L2.St} {φ χ ψ : List Addr} {H : Hp} {μ : Mem} {η : Env'}
    {m : Env' → Mem → R α} {g : α → Mem → R γ} {Q : δ → Hp → Prop} {C : β → Hp → Prop} (r : Rel K mg φ χ ψ μ η σ H) (p : Post K mg W rep' σ φ χ ψ H ((m η μ).bind g) Q)
    (k : ∀ φ1 H1 μ1 d x, m η μ = .ok d μ1 → Go φ H φ1 H1 → Rel K mg φ1 χ ψ μ1 η σ H1 → rep φ1 χ ψ H1 d x → Post K mg W rep' σ φ1 χ ψ H1 (g d μ1) Q → C x H1) : rd K mg W rep m σ H C := by
  refine ⟨φ, χ, ψ, μ, η, r, ?_⟩
  cases h : m η μ with
  | ok d μ1 =>
    rw [h] at p
    exact fun v φ1 H1 g1 m1 rp => k φ1 H1 μ1 d v h g1 (r.go g1 m1) rp (Post.go p g1)
  | exc x μ1 => rw [h] at p; exact p
  | stuck => rw [h] at p; exact p
section
variable {X : Cx} {W : WX} {a b e o : Expr} {es : List Expr} {ma mb mo me : MV} {ms : ML} {pos apos : Pos}
theorem mOp_congr {f f' : D → D → Mem → R D} {η : Env'} {μ : Mem} (h : ∀ o μ1 i μ2, ma η μ = .ok o μ1 → mb η μ1 = .ok i μ2 → f o i μ2 = f' o i μ2) : mOp f ma mb η μ = mOp f' ma mb η μ := by
  unfold mOp
  cases h1 : ma η μ with
  | ok o μ1 =>
    simp only [R.bind_ok]
    cases h2 : mb η μ1 with
    | ok i μ2 => simp only [R.bind_ok]; exact h o μ1 i μ2 h1 h2
    | exc x μ2 => rfl
    | stuck => rfl
  | exc x μ1 => rfl
  | stuck => rfl
/-- o[i], of a sequence or a dict -/
def fIxA (o i : D) (μ : Mem) : R D := match dicOf μ o with
  | some (ks, ds) => match keyD i with
    | some k => match dget ks ds k with
      | some d => .ok d μ
      | none => .stuck
    | none => .stuck
  | none => fIx o i μ
theorem ee_ixA (hu : X.A.units + 1 < cLine) (ha : EE X W a ma) (hb : EE X W b mb) (hs : PlainIx b := by intro _ _; rfl) : EE X W (.Subscript a b pos) (mOp fIxA ma mb) :=
  ((pe_ix ix_seq ha hb hs).or (pe_dget hu ha hb hs)).imp fun σ H Q q => by
    obtain ⟨φ, χ, ψ, μ, η, rl, p⟩ := q
    by_cases hd : ∃ o μ1 i μ2 kd, ma η μ = .ok o μ1 ∧ mb η μ1 = .ok i μ2 ∧ dicOf μ2 o = some kd
    · right
      obtain ⟨o, μ1, i, μ2, ⟨ks, ds⟩, e1, e2, e3⟩ := hd
      refine rd_bindE rl p fun φ1 H1 μ1' o' x ea g1 r1 rx p1 => ?_
      rw [e1] at ea
      cases ea
      refine rd_bindE r1 p1 fun φ2 H2 μ2' i' y eb g2 r2 ry p2 => ?_
      rw [e2] at eb
      cases eb
      unfold fIxA at p2
      rw [e3] at p2
      simp only at p2
      split at p2
      · rename_i k hk
        obtain ⟨a, xs, rfl, hq, hl, q⟩ := dicOf_rp r2.mem (g2.rp rx) e3
        have hg := dget_rp (k := k) hl q
        split at p2
        · rename_i d hd
          rw [hd] at hg
          obtain ⟨v, hv, rv⟩ := hg
          have ek := keyD_rp hk ry
          subst ek
          exact ⟨a, v, rfl, by rw [← hv]; exact DGet.k hq, p2 _ _ _ .refl r2.mem rv⟩
        · exact p2.elim
      · exact p2.elim
    · left
      have e1 : mOp fIxA ma mb η μ = mOp fIx ma mb η μ := mOp_congr fun o μ1 i μ2 h1 h2 => by
        unfold fIxA
        cases hk : dicOf μ2 o with
        | none => rfl
        | some kd => exact absurd ⟨o, μ1, i, μ2, kd, h1, h2, hk⟩ hd
      rw [e1] at p
      exact rd_op os_ix ⟨φ, χ, ψ, μ, η, rl, p⟩
/-- x in d, of a sequence, a text or a dict -/
def fInA (neg : Bool) (d e : D) (μ : Mem) : R D := match dicOf μ e with
  | some (ks, _) => match keyD d with
    | some k => .ok (.bl (if neg then !hasK ks k else hasK ks k)) μ
    | none => .stuck
  | none => if neg then fNotIn d e μ else fIn d e μ
theorem has_rp {K : PySem.W.Frag} {φ χ : List Addr} {H : Hp} {k : Key} : ∀ {ks : List Key} {ds : List D} {xs : List V}, ks.length = ds.length → RpL K φ χ H ds xs → (valV (ks.zip xs) k).isSome = hasK ks k
  | [], [], _, _, r => by cases r; rfl
  | [], _ :: _, _, h, _ => by simp at h
  | _ :: _, [], _, h, _ => by simp at h
  | k' :: ks, d :: ds, _, h, r => by
    obtain ⟨x, q, rfl, r1, r2⟩ := r
    have ih := has_rp (k := k) (ks := ks) (by simpa using h) r2
    by_cases e : k' = k
    · simp [valV, hasK, e]
    · have e2 : valV ((k' :: ks).zip (x :: q)) k = valV (ks.zip q) k := by simp [valV, e]
      rw [e2, ih]
      simp [hasK, e]
theorem rd_inA {neg : Bool} {σ : L2.St} {H : Hp} {Q : VK} (q : rd X.K X.mg W (rV X.K) (mOp (fInA neg) ma mb) σ H Q) :
    rd X.K X.mg W (rV X.K) (mOp (if neg then fNotIn else fIn) ma mb) σ H Q ∨ (if neg then tDNotIn (rd X.K X.mg W (rV X.K) ma) (rd X.K X.mg W (rV X.K) mb) σ H Q else tDIn (rd X.K X.mg W (rV X.K) ma) (rd X.K X.mg W (rV X.K) mb) σ H Q) := by
  obtain ⟨φ, χ, ψ, μ, η, rl, p⟩ := q
  by_cases hd : ∃ o μ1 i μ2 kd, ma η μ = .ok o μ1 ∧ mb η μ1 = .ok i μ2 ∧ dicOf μ2 i = some kd
  · right
    obtain ⟨o, μ1, i, μ2, ⟨ks, ds⟩, e1, e2, e3⟩ := hd
    have key : ∀ (f : V → V → Hp → Prop), (∀ φ2 H2 (x y : V), MemOk X.K X.mg φ2 (χ ++ ψ) μ2 H2 → Rp X.K φ2 χ H2 o x → Rp X.K φ2 χ H2 i y → Post X.K X.mg W (rV X.K) σ φ2 χ ψ H2 (fInA neg o i μ2) Q → f x y H2) →
        rd X.K X.mg W (rV X.K) ma σ H fun x H1 => rd X.K X.mg W (rV X.K) mb σ H1 fun y H2 => f x y H2 := fun f hf => by
      refine rd_bindE rl p fun φ1 H1 μ1' o' x ea g1 r1 rx p1 => ?_
      rw [e1] at ea
      cases ea
      refine rd_bindE r1 p1 fun φ2 H2 μ2' i' y eb g2 r2 ry p2 => ?_
      rw [e2] at eb
      cases eb
      exact hf φ2 H2 x y r2.mem (g2.rp rx) ry p2
    cases neg with
    | true =>
      refine key _ fun φ2 H2 x y m rx ry p2 => ?_
      unfold fInA at p2
      rw [e3] at p2
      simp only at p2
      split at p2
      · rename_i k hk
        obtain ⟨a, xs, rfl, hq, hl, q⟩ := dicOf_rp m ry e3
        have ek := keyD_rp hk rx
        subst ek
        refine ⟨a, _, rfl, DGet.k hq, ?_⟩
        rw [has_rp hl q]
        exact p2 _ _ _ .refl m rfl
      · exact p2.elim
    | false =>
      refine key _ fun φ2 H2 x y m rx ry p2 => ?_
      unfold fInA at p2
      rw [e3] at p2
      simp only at p2
      split at p2
      · rename_i k hk
        obtain ⟨a, xs, rfl, hq, hl, q⟩ := dicOf_rp m ry e3
        have ek := keyD_rp hk rx
        subst ek
        refine ⟨a, _, rfl, DGet.k hq, ?_⟩
        rw [has_rp hl q]
        exact p2 _ _ _ .refl m rfl
      · exact p2.elim
  · left
    refine ⟨φ, χ, ψ, μ, η, rl, ?_⟩
    have e1 : mOp (fInA neg) ma mb η μ = mOp (if neg then fNotIn else fIn) ma mb η μ := mOp_congr fun o μ1 i μ2 h1 h2 => by
      unfold fInA
      cases hk : dicOf μ2 i with
      | none => cases neg <;> rfl
      | some kd => exact absurd ⟨o, μ1, i, μ2, kd, h1, h2, hk⟩ hd
    rw [e1] at p
    exact p
theorem ee_in (hu : X.A.units + 1 < cLine) (ha : EE X W a ma) (hb : EE X W b mb) (hm : behindInMarks .In b = false := by rfl) : EE X W (.Compare a [.In] [b] pos) (mOp (fInA false) ma mb) :=
  ((pe_cmpR or_in ha hb hm).or (pe_cmp (pc_din hu ha hb) hm)).imp fun σ H Q q => (rd_inA q).imp (fun h => rd_op os_in h) id
theorem ee_notIn (hu : X.A.units + 1 < cLine) (ha : EE X W a ma) (hb : EE X W b mb) (hm : behindInMarks .NotIn b = false := by rfl) : EE X W (.Compare a [.NotIn] [b] pos) (mOp (fInA true) ma mb) :=
  ((pe_cmpR or_notIn ha hb hm).or (pe_cmp (pc_dnotin hu ha hb) hm)).imp fun σ H Q q => (rd_inA q).imp (fun h => rd_op os_notIn h) id
theorem _root_.L2.PT.or {X : Cx} {e : Expr} {t u : TT} (h : PT X e t) (h' : PT X e u) : PT X e (fun σ H Q => t σ H Q ∨ u σ H Q) := ⟨fun pins s σ H Q I q => q.elim (h.run pins s σ H Q I) (h'.run pins s σ H Q I)⟩
theorem tt_in (hu : X.A.units + 1 < cLine) (ha : EE X W a ma) (hb : EE X W b mb) (hm : behindInMarks .In b = false := by rfl) : TT' X W (.Compare a [.In] [b] pos) (mTst (mOp (fInA false) ma mb)) :=
  ((pt_cmpR or_in ha hb hm).or (pt_cmp (pc_din hu ha hb) hm)).imp fun σ H Q q => (rd_inA (rd_tst q)).imp (fun h => rd_op os_in h) id
theorem tt_notIn (hu : X.A.units + 1 < cLine) (ha : EE X W a ma) (hb : EE X W b mb) (hm : behindInMarks .NotIn b = false := by rfl) : TT' X W (.Compare a [.NotIn] [b] pos) (mTst (mOp (fInA true) ma mb)) :=
  ((pt_cmpR or_notIn ha hb hm).or (pt_cmp (pc_dnotin hu ha hb) hm)).imp fun σ H Q q => (rd_inA (rd_tst q)).imp (fun h => rd_op os_notIn h) id
/-! ### texts' methods -/
def strsD : List D → Option (List Str)
  | [] => some []
  | .str s :: l => (strsD l).map (s :: ·)
  | _ => none
theorem strsD_rp {K : PySem.W.Frag} {φ χ : List Addr} {H : Hp} : ∀ {ds : List D} {xs : List V} {ss : List Str}, RpL K φ χ H ds xs → strsD ds = some ss → xs = ss.map V.str
  | [], _, _, r, h => by cases h; cases r; rfl
  | d :: l, _, _, r, h => by
    obtain ⟨x, q, rfl, r1, r2⟩ := r
    cases d with
    | str s =>
      unfold strsD at h
      cases hl : strsD l with
      | none => rw [hl] at h; cases h
      | some ss => rw [hl] at h; cases h; cases r1; rw [strsD_rp r2 hl]; rfl
    | _ => cases h
/-- a method of a text with one argument -/
def mM1 (f : Str → D → Mem → R D) (mo me : MV) : MV := fun η μ => (mo η μ).bind fun o μ1 => match o with
  | .str a => (me η μ1).bind fun d μ2 => f a d μ2
  | _ => .stuck
theorem rd_m1 {f : Str → D → Mem → R D} {r : V → List V → Hp → VK → Prop} {σ : L2.St} {H : Hp} {Q : VK} (hr : ∀ (φ : List Addr) (μ : Mem) (χ ψ : List Addr) (H : Hp) (a : Str) (d : D) (y : V), MemOk X.K X.mg φ (χ ++ ψ) μ H → Rp X.K φ χ H d y → Post X.K X.mg W (rV X.K) σ φ χ ψ H (f a d μ) Q → r (.str a) [y] H Q)
    (q : rd X.K X.mg W (rV X.K) (mM1 f mo me) σ H Q) : tM1 r (rd X.K X.mg W (rV X.K) mo) (rd X.K X.mg W (rV X.K) me) σ H Q := by
  obtain ⟨φ, χ, ψ, μ, η, rl, p⟩ := q
  refine rd_bind rl p fun φ1 H1 μ1 o x g1 r1 rx p1 => ?_
  split at p1
  · rename_i a
    cases rx
    refine ⟨⟨_, rfl⟩, ?_⟩
    refine rd_bind r1 p1 fun φ2 H2 μ2 l y g2 r2 ry p2 => ?_
    exact hr φ2 μ2 χ ψ H2 a l y r2.mem ry p2
  · exact p1.elim
def fJoin (a : Str) (l : D) (μ : Mem) : R D := match aseq μ l with
  | some ds => match strsD ds with
    | some ys => if (ys.map (·.length)).sum + ys.length * a.length ≤ 10000000 then .ok (.str (Txt.join a ys)) μ else .stuck
    | none => .stuck
  | none => .stuck
theorem ee_join (ho : EE X W o mo) (he : EE X W e me) (hs : starEach [e] X.env = [(false, eval e X.env)] := by rfl) (hbase : attributeBase o "join" X.env (eval o X.env) = eval o X.env := by rfl) (hline : (apos.endLine == pos.line) = true := by rfl) :
    EE X W (.Call (.Attribute o "join" apos) [e] [] pos) (mM1 fJoin mo me) := (pe_join ho he hs hbase hline).imp fun σ H Q q => rd_m1 (fun φ μ χ ψ H a d y m ry p2 => by
  unfold fJoin at p2
  split at p2
  · rename_i ds hds
    split at p2
    · rename_i ys hys
      obtain ⟨c, p2⟩ := p2.ite
      obtain ⟨b, xs, rfl, hq, q⟩ := aseq_rp m ry hds
      have ex := strsD_rp q hys
      subst ex
      exact ⟨a, b, ys, rfl, rfl, hq, Nat.le_trans c (by decide), p2 _ _ _ .refl m rfl⟩
    · exact p2.elim
  · exact p2.elim) q
end
/-! ### new lists: a comprehension, a + b, a[i:j], list(a) -/
section
variable {X : Cx} {W : WX} {ω : List Nat} {elt tg iter e : Expr} {ifs es : List Expr} {scope : Scope} {own : List (Str × Nat)} {pos : Pos} {mi : MI} {g : Tg} {tst : MB} {me : MV}
theorem rdF_lc {σ : L2.St} {H : Hp} {Q : VK} {vs : List Nat} (hv : ∀ i ∈ tgIn g, i ∈ vs) (q : rdF X.K X.mg W (mLc mi g vs tst me) σ H Q) :
    tLc (rdI X.K X.mg W mi) (gOf X.K g) (rd X.K X.mg W0 rB tst) (rd X.K X.mg W0 (rV X.K) me) vs σ H Q := by
  obtain ⟨φ, χ, ψ, μ, η, rl, p⟩ := q
  refine ⟨φ, χ, ψ, μ, η, rl, ?_⟩
  unfold mLc at p
  cases hm : mi η μ with
  | exc x μ1 => rw [hm] at p; exact p
  | stuck => rw [hm] at p; exact p
  | ok ds μ1 =>
    rw [hm] at p
    simp only [FP.R.bind_ok] at p
    intro J φ1 H1 g1 m1 hJ
    refine lc_run (P := fun r => PostF X.K X.mg W σ φ χ ψ H r Q) (fun z => z) hv (rl.go g1 m1) hJ p fun Dl φ' μ' acc xs H' hD g' m' hl ra p' => ?_
    refine p' _ φ' [Dl] H' (g1.trans g') (m'.less fun b z => ?_) (fun b z => by simp at z; rw [z]; exact none_back g1.gr hD) ⟨Dl, xs, rfl, ⟨m'.dis Dl (by simp), Gr.offχ m1 hD⟩, hl, ra.less fun a z => List.mem_cons_of_mem _ z⟩ fun b e => by cases e; simp
    simp only [List.mem_append, List.mem_cons, List.cons_append, List.not_mem_nil, or_false] at z ⊢
    rcases z with z | z | z <;> simp [z]
theorem ef_lc (hc : X.calm = true) (hN : X.N.Nodup) (g : Tg) (hv : ∀ i ∈ tgIn g, i ∈ own.map (·.2)) (hi : II X W tg iter mi) (ok : BlkOk X.N X.env.scope scope own)
    (hg : ∀ (s : Shared) (H : Hp) (C : Addr) (cl : List (Str × Addr)) (fp : List Addr), PG (X.blk s H scope (compEnvC scope cl C X.env) fp) tg (gOf X.K g))
    (ht : ∀ (s : Shared) (H : Hp) (C : Addr) (cl : List (Str × Addr)) (fp : List Addr), PTs (X.blk s H scope (compEnvC scope cl C X.env) fp) ifs (rd X.K X.mg W0 rB tst))
    (he : ∀ (s : Shared) (H : Hp) (C : Addr) (cl : List (Str × Addr)) (fp : List Addr), PE (X.blk s H scope (compEnvC scope cl C X.env) fp) elt (rd X.K X.mg W0 (rV X.K) me))
    (hs : ∀ x, foldedSetIterable iter X.env x = pure x := by intro _; rfl) : EF X W (.ListComp elt [⟨tg, iter, ifs, 0⟩] scope pos) (mLc mi g (own.map (·.2)) tst me) :=
  (pe_lc hc hN hi ok hg ht he hs).imp fun σ H Q q => rdF_lc hv q
/-- y = [..], y a plain name -/
theorem ss_setLc {i : Nat} {y : Str} {py : Pos} {spos : Pos} (hc : X.calm = true) (hN : X.N.Nodup) (g : Tg) (hv : ∀ i ∈ tgIn g, i ∈ own.map (·.2)) (hy : X.N[i]? = some y) (hyl : X.env.scope.names.lookup y = some .local)
    (hsw : swapsWith (.ListComp elt [⟨tg, iter, ifs, 0⟩] scope pos) (some (.Name y py)) spos.line X.env = pure true) (hi : II X W tg iter mi) (ok : BlkOk X.N X.env.scope scope own)
    (hg : ∀ (s : Shared) (H : Hp) (C : Addr) (cl : List (Str × Addr)) (fp : List Addr), PG (X.blk s H scope (compEnvC scope cl C X.env) fp) tg (gOf X.K g))
    (ht : ∀ (s : Shared) (H : Hp) (C : Addr) (cl : List (Str × Addr)) (fp : List Addr), PTs (X.blk s H scope (compEnvC scope cl C X.env) fp) ifs (rd X.K X.mg W0 rB tst))
    (he : ∀ (s : Shared) (H : Hp) (C : Addr) (cl : List (Str × Addr)) (fp : List Addr), PE (X.blk s H scope (compEnvC scope cl C X.env) fp) elt (rd X.K X.mg W0 (rV X.K) me)) (ho : i ∉ ω := by decide)
    (hs : ∀ x, foldedSetIterable iter X.env x = pure x := by intro _; rfl) : SS X W ω (.Assign [.Name y py] (.ListComp elt [⟨tg, iter, ifs, 0⟩] scope pos) spos) (sSet ω i (mLc mi g (own.map (·.2)) tst me)) :=
  (ps_setLc hc hN hy hyl hsw hi ok hg ht he hs).imp fun D σ H q => by
    obtain ⟨φ, χ, ψ0, ψ, μ, η, r, p⟩ := q
    refine rd_lc hv (W := W) ?_
    refine rdS_bind r p fun φ1 H1 μ1 d v g1 r1 rv p1 => ?_
    split at p1
    · rename_i c
      exact p1 _ φ1 ψ H1 .refl (r1.set ho (r1.sealed c rv))
    · exact p1.elim
/-- a + b, two lists -/
def fAddL : FP.D → FP.D → Mem → R FP.D
  | .lst a, .lst b, μ => if a.length + b.length ≤ 10000000 then .ok (.lst (a ++ b)) μ else .stuck
  | _, _, _ => .stuck
theorem ef_add {a b : Expr} {ma mb : MV} (ha : EE X W a ma) (hb : EE X W b mb) : EF X W (.BinOp a .Add b pos) (mOp fAddL ma mb) := (pe_op op_cat ha hb).imp fun σ H Q q => by
  obtain ⟨φ, χ, ψ, μ, η, rl, p⟩ := q
  refine ⟨φ, χ, ψ, μ, η, rl, ?_⟩
  unfold mOp at p
  cases h1 : ma η μ with
  | exc x μ1 => rw [h1] at p; exact p
  | stuck => rw [h1] at p; exact p
  | ok d μ1 =>
    rw [h1] at p
    simp only [FP.R.bind_ok] at p
    intro x φ1 H1 g1 m1 rx
    refine ⟨φ1, χ, ψ, μ1, η, rl.go g1 m1, ?_⟩
    cases h2 : mb η μ1 with
    | exc x μ2 => rw [h2] at p; exact fun c a φ2 H2 g2 m2 rx => p c a φ2 H2 (g1.trans g2) m2 rx
    | stuck => rw [h2] at p; exact p
    | ok e μ2 =>
      rw [h2] at p
      simp only [FP.R.bind_ok] at p
      intro y φ2 H2 g2 m2 ry
      unfold fAddL at p
      split at p
      · split at p
        · rename_i c
          obtain ⟨a1, xs, e1, n1, q1, r1⟩ := g2.rp rx
          obtain ⟨a2, ys, e2, n2, q2, r2⟩ := ry
          refine ⟨a1, a2, xs, ys, e1, e2, q1, q2, line_le (by rw [r1.length, r2.length]; exact c), fun t ht => ?_⟩
          have g : Go φ2 H2 φ2 (upd H2 t (.lst (xs ++ ys))) := .new ht
          refine p _ φ2 [t] _ ((g1.trans g2).trans g) ((m2.hid ht).less fun b z => ?_) (fun b z => by simp at z; rw [z]; exact none_back (g1.trans g2).gr ht) ⟨t, _, rfl, ⟨Gr.notin m2 ht, Gr.offχ m2 ht⟩, upd_same, g.rpL (r1.append r2)⟩ fun b e => by cases e; simp
          simp only [List.mem_append, List.mem_cons, List.not_mem_nil, or_false] at z ⊢
          rcases z with z | z | z <;> simp [z]
        · exact p.elim
      · exact p.elim
/-- list(a), a list or a tuple -/
theorem ef_list {a : Expr} {ma : MV} {p : Pos} (hm : X.mg "list" = none) (ha : EE X W a ma) (hv : bootBuiltins "list" = some (.type "list") := by decide +kernel) (hg : Gl X "list" := by rfl) (he : starEach (a :: []) X.env = (false, eval a X.env) :: starEach [] X.env := by rfl) (hpl : (backTo pos (starEach [] X.env)).any (·.1) = false := by rfl) :
    EF X W (.Call (.Name "list" p) [a] [] pos) (mCall fList (aCons ma aNil)) := (pe_callTy call_list_of hg hm hv (aa_cons ha aa_nil he) (by decide) (by decide) he hpl).imp fun σ H Q q => by
  obtain ⟨φ, χ, ψ, μ, η, rl, p⟩ := q
  refine ⟨φ, χ, ψ, μ, η, rl, ?_⟩
  unfold mCall at p
  cases hms : aCons ma aNil η μ with
  | exc x' μ1 => rw [hms] at p; exact p
  | stuck => rw [hms] at p; exact p
  | ok as μ1 =>
    rw [hms] at p
    simp only [FP.R.bind_ok] at p
    intro xs φ1 H1 g1 m1 rx
    unfold fList at p
    split at p
    · split at p
      · rename_i l hl
        obtain ⟨x, ex, rx2⟩ := RpL.one rx
        subst ex
        obtain ⟨a, ys, rfl, hq, q⟩ := aseq_rp m1 rx2 hl
        refine ⟨a, ys, rfl, hq, fun t ht => ?_⟩
        have g : Go φ1 H1 φ1 (upd H1 t (.lst ys)) := .new ht
        refine p _ φ1 [t] _ (g1.trans g) ((m1.hid ht).less fun b z => ?_) (fun b z => by simp at z; rw [z]; exact none_back g1.gr ht) ⟨t, _, rfl, ⟨Gr.notin m1 ht, Gr.offχ m1 ht⟩, upd_same, g.rpL q⟩ fun b e => by cases e; simp
        simp only [List.mem_append, List.mem_cons, List.not_mem_nil, or_false] at z ⊢
        rcases z with z | z | z <;> simp [z]
      · exact p.elim
    · exact p.elim
end
/-! ### a plain tuple's slice -/
def rSlP : V → Option Int → Option Int → Hp → VK → Prop := fun x lo hi H Q => ∃ a o xs, x = .ref a ∧ H a = some (.frz o (.tup xs)) ∧ o.dict = none ∧
  (HT.sIx xs.length 0 lo = 0 ∧ HT.sIx xs.length xs.length hi = xs.length → Q (.ref a) H) ∧ (¬ (HT.sIx xs.length 0 lo = 0 ∧ HT.sIx xs.length xs.length hi = xs.length) → ∀ p o, H p = none → o.dict = none → Q (.ref p) (upd H p (.frz o (.tup (cutV xs lo hi)))))
theorem sl_tupP {X : Cx} : SlR X rSlP := by
  intro pins s σ H x v vl vu lo hi sl Q I rx hs pl pu h
  obtain ⟨a, o, xs, rfl, hx0, hd, q1, q2⟩ := h
  have hx : SqT X.K H a xs := .inl (.inr ⟨o, hx0⟩)
  by_cases hw : HT.sIx xs.length 0 lo = 0 ∧ HT.sIx xs.length xs.length hi = xs.length
  · exact sl_tupA pins s σ H _ v vl vu lo hi sl Q I rx hs pl pu ⟨a, xs, rfl, hx, q1, fun n => absurd hw n⟩
  · cases rx
    obtain ⟨its, r, ht, hz⟩ := I.tuple hx
    have hlen : its.toArray.size = xs.length := by rw [List.size_toArray]; exact r.length.symm
    refine ⟨"tuple", _, PyProof.Rows.slot_tuple_getitem.lookup, ht.typeIs, ?_⟩
    refine HT.getItem_tuple_cut ht hs pl pu (by rw [hlen]; exact hw) ?_ (by rw [hlen]; exact hz)
    rw [hlen]
    have hg := Heap.get?_push_size s.heap (o := { cls := .type "tuple", data := .seq ((its.toArray.toList.drop (HT.sIx xs.length 0 lo)).take (HT.sIx xs.length xs.length hi - HT.sIx xs.length 0 lo)).toArray }) rfl
    refine ⟨.ref s.heap.objs.size, _, I.laid (t' := s.toks) (o := .frz _ (.tup (cutV xs lo hi))) (fun b ob q => Heap.get?_push_of_some _ q) (Nat.le_refl _) ⟨hg, ?_⟩, rfl, q2 hw _ _ (I.hok.fresh (Nat.le_refl _)) rfl⟩
    exact ⟨Nat.le_trans (cutV_length xs lo hi) hz, _, (r.drop (HT.sIx xs.length 0 lo)).take (HT.sIx xs.length xs.length hi - HT.sIx xs.length 0 lo), IsTup.new _ _⟩
def fSlP (o : D) (lo hi : Option Int) (μ : Mem) : R D := match o with
  | .ptu l => .ok (.ptu (cutD l lo hi)) μ
  | _ => .stuck
def mSlP (a : MV) (lo hi : MO) : MV := fun η μ => (a η μ).bind fun o μ1 => (lo η μ1).bind fun l μ2 => (hi η μ2).bind fun h μ3 => fSlP o l h μ3
theorem ee_slP {X : Cx} {W : WX} {a : Expr} {lo hi : Option Expr} {ma : MV} {ml mh : MO} {p2 pos : Pos} (ha : EE X W a ma) (hl : OO X W lo ml) (hh : OO X W hi mh) : EE X W (.Subscript a (.Slice lo hi none p2) pos) (mSlP ma ml mh) := (pe_slice sl_tupP ha hl hh).imp fun σ H Q q => by
  obtain ⟨φ, χ, ψ, μ, η, rl, p⟩ := q
  refine rd_bind rl p fun φ1 H1 μ1 d x g1 r1 rx p1 => ?_
  refine rd_bind r1 p1 fun φ2 H2 μ2 l l' g2 r2 rl p2 => ?_
  cases rl
  refine rd_bind r2 p2 fun φ3 H3 μ3 h h' g3 r3 rh p3 => ?_
  cases rh
  unfold fSlP at p3
  split at p3
  · obtain ⟨a, xs, rfl, ⟨o, ho, hd⟩, q⟩ := g3.rp (g2.rp rx)
    refine ⟨a, o, xs, rfl, ho, hd, fun w => ?_, fun _ t ob ht hd2 => ?_⟩
    · refine p3 _ _ _ .refl r3.mem ⟨a, xs, rfl, ⟨o, ho, hd⟩, ?_⟩
      have e : cutV xs l h = xs := by
        unfold cutV
        rw [w.1, w.2, List.drop_zero, Nat.sub_zero, List.take_length]
      rw [← e]; exact cut_rp q
    · have g : Go φ3 H3 φ3 (upd H3 t (.frz ob (.tup (cutV xs l h)))) := .new ht
      exact p3 _ _ _ g (r3.mem.new ht) ⟨t, _, rfl, ⟨ob, upd_same, hd2⟩, g.rpL (cut_rp q)⟩
  · exact p3.elim
end FP
/-! Core10: what the generated terms name. -/
namespace FP
open PySem PySem.Spec L2 PySem.W
open PyProof.Rows hiding St

theorem or_eq {X : Cx} (hu : X.A.units + 64 < cLine) : OpR X (compareOp .Eq) (rEqF X.K) := op_eq.or (op_eqD hu)
theorem or_ne {X : Cx} (hu : X.A.units + 64 < cLine) : OpR X (compareOp .NotEq) (rNeF X.K) := op_ne.or (op_neD hu)
theorem units1 {A : Around} {k : Nat} (hr : Room k A) : A.units + 1 < cLine := hu_of hr
/-! ** and list * int -/
def fPow : D → D → Mem → R D
  | .int i, .int j, μ => if (decide (0 ≤ j) && decide (j ≤ 1000000) && decide (i.natAbs < 2 ^ 64)) = true then .ok (.int (i ^ j.toNat)) μ else .stuck
  | _, _, _ => .stuck
theorem os_pow {K : PySem.W.Frag} {mg : Str → Option Value} : OpS K mg fPow (rI CPow fun i j => .int (i ^ j.toNat)) := by
  intro W φ χ ψ μ σ H d e x y Q m rx ry p
  unfold fPow at p
  split at p
  · obtain ⟨c, p⟩ := p.ite
    simp only [Bool.and_eq_true, decide_eq_true_eq] at c
    exact ⟨_, _, rx, ry, ⟨c.1.1, c.1.2, c.2⟩, p _ _ _ .refl m rfl⟩
  · exact p.elim
theorem ee_pow {X : Cx} {W : WX} {a b : Expr} {ma mb : MV} {pos : Pos} (ha : EE X W a ma) (hb : EE X W b mb) : EE X W (.BinOp a .Pow b pos) (mOp fPow ma mb) := ee_op op_pow os_pow ha hb
def repD (l : List D) : Nat → List D
  | 0 => []
  | n + 1 => l ++ repD l n
def fMulA : D → D → Mem → R D
  | .lst l, .int k, μ => if (decide (-(2 ^ 63) ≤ k) && decide (k < 2 ^ 63) && decide (l.length * k.toNat ≤ 10000000)) = true then .ok (.lst (repD l k.toNat)) μ else .stuck
  | d, e, μ => fMul d e μ
theorem repD_rp {K : PySem.W.Frag} {φ χ : List Addr} {H : Hp} {l : List D} {xs : List V} (r : RpL K φ χ H l xs) : ∀ n : Nat, RpL K φ χ H (repD l n) (List.replicate n xs).flatten
  | 0 => .nil
  | n + 1 => by
    rw [List.replicate_succ, List.flatten_cons]
    exact r.append (repD_rp r n)
theorem os_mulA {K : PySem.W.Frag} {mg : Str → Option Value} : OpS K mg fMulA (fun x y H Q => rRep x y H Q ∨ rI CMul (fun i j => .int (i * j)) x y H Q) := by
  intro W φ χ ψ μ σ H d e x y Q m rx ry p
  unfold fMulA at p
  split at p
  · rename_i l k
    obtain ⟨c, p⟩ := p.ite
    simp only [Bool.and_eq_true, decide_eq_true_eq] at c
    obtain ⟨a, xs, rfl, n, h, q⟩ := rx
    cases ry
    refine .inl ⟨a, _, xs, rfl, rfl, h, c.1.1, c.1.2, by rw [q.length]; exact line_le c.2, fun t ht => ?_⟩
    have g : Go φ H φ (upd H t (.lst (List.replicate k.toNat xs).flatten)) := .new ht
    exact p _ _ _ g (m.new ht) ⟨t, _, rfl, ⟨Gr.notin m ht, Gr.offχ m ht⟩, upd_same, g.rpL (repD_rp q _)⟩
  · exact .inr (os_mul W φ χ ψ μ σ H _ _ _ _ Q m rx ry p)
theorem ee_mulA {X : Cx} {W : WX} {a b : Expr} {ma mb : MV} {pos : Pos} (ha : EE X W a ma) (hb : EE X W b mb) : EE X W (.BinOp a .Mult b pos) (mOp fMulA ma mb) := ee_op (op_rep.or op_mul) os_mulA ha hb
/-! a, b = x, y -/
def sPar (ω : List Nat) (i j : Nat) (ma mb : MV) : MS := fun η μ => liftR (ma η μ) η fun a μ1 => liftR (mb η μ1) η fun b μ2 => if (!ω.contains i && !ω.contains j && (ω.isEmpty || (noL a && noL b))) = true then .nx ((η.set i (some a)).set j (some b)) μ2 else .stuck
theorem ss_par {X : Cx} {W : WX} {ω : List Nat} {i j : Nat} {x y : Str} {a b : Expr} {ma mb : MV} {px py pt pos : Pos} {kt k2 pt2} (hc : X.calm = true) (hN : X.N.Nodup) (hi : X.N[i]? = some x) (hj : X.N[j]? = some y) (hij : i ≠ j)
    (hx : X.env.scope.names.lookup x = some .local) (hy : X.env.scope.names.lookup y = some .local) (ha : EE X W a ma) (hb : EE X W b mb)
    (hw : swappedStores [.Tuple [.Name x px, .Name y py] kt pt] (.Tuple [a, b] k2 pt2) X.env = pure (some [x, y]) := by rfl)
    (hs : swapsWithSole [.Tuple [.Name x px, .Name y py] kt pt] (.Tuple [a, b] k2 pt2) pos.line X.env = pure false := by rfl)
    (hs1 : starEach (a :: [b]) X.env = (false, eval a X.env) :: starEach [b] X.env := by rfl) (hs2 : starEach (b :: []) X.env = (false, eval b X.env) :: starEach [] X.env := by rfl) :
    SS X W ω (.Assign [.Tuple [.Name x px, .Name y py] kt pt] (.Tuple [a, b] k2 pt2) pos) (sPar ω i j ma mb) := (ps_par hc hN hi hj hij hx hy (pa_cons ha (pa_cons hb pa_nil hs2) hs1) hw hs).imp fun D σ H q => by
  obtain ⟨φ, χ, ψ0, ψ, μ, η, r, p⟩ := q
  refine rdS_bind r p fun φ1 H1 μ1 d1 v1 g1 r1 rv1 p1 => ?_
  refine rdS_bind r1 p1 fun φ2 H2 μ2 d2 v2 g2 r2 rv2 p2 => ?_
  split at p2
  · rename_i c
    simp only [Bool.and_eq_true, Bool.not_eq_true'] at c
    have hi' : i ∉ ω := fun z => by have := c.1.1; simp [z] at this
    have hj' : j ∉ ω := fun z => by have := c.1.2; simp [z] at this
    have c1 : (ω.isEmpty || noL d1) = true := by
      rcases Bool.or_eq_true _ _ ▸ c.2 with h | h
      · simp [h]
      · simp [(Bool.and_eq_true _ _ ▸ h).1]
    have c2 : (ω.isEmpty || noL d2) = true := by
      rcases Bool.or_eq_true _ _ ▸ c.2 with h | h
      · simp [h]
      · simp [(Bool.and_eq_true _ _ ▸ h).2]
    refine ⟨v1, v2, rfl, ?_⟩
    exact p2 _ φ2 ψ H2 .refl ((r2.set hi' (r2.sealed c1 (g2.rp rv1))).set hj' (r2.sealed c2 rv2))
  · exact p2.elim
/-- defs with defaults too -/
theorem okD {P : Program} {w : World} {K : PySem.W.Frag} {mg : Str → Option Value} {base : Heap} {x qual : Str} {st : Stmt} {f : Addr} {fd : FuncData} {N ps : List Str} {k : Nat} {ω : List Nat} {B : MS} {dvs : List V} (F : FunD K x qual (defArgs st) (defBody st) (defScope st) dvs [] f fd) (S : FnScope N ps (defScope st)) (hω : ω.all (fun i => decide (ps.length ≤ i)) = true)
    (hb : ∀ (cdv : Value) (A : Around) (outer : List Env) (s : Shared) (H : Hp) (E : XK), Room k (A.deeper (envOfC qual (defScope st) s.heap.objs.size f cdv)) →
      SSs (cxOf (L2.CX P w) P w K mg base N qual (defScope st) f cdv A outer s H E) (fun cls d _ H => E cls d H) ω (defBody st) B) : FnOk P w K mg base (L2.CX P w) (k + 1) f fd ps (spF K mg ps.length (runF N.length B)) :=
  F.ok S (fun vs H Q E h => h.1) fun cdv A outer s H vs Q E hr hsp => ⟨_, hb cdv A outer s H E hr, body_run S hω hsp⟩
end FP
/-! Core11: the law's head. -/
namespace FP
open PySem PySem.Spec L2 PySem.W
open PyProof.Rows hiding St

/-- law(script): for a list of at most 63 ints that nobody changes the answer is True -/
def spL (K : PySem.W.Frag) : Sp := fun vs H Q _ => ∃ (a : Addr) (ns : List Int), vs = [.ref a] ∧ FzL K H a (ns.map V.int) ∧ ns.length ≤ 63 ∧ ∀ H', Q (.bl true) H'
theorem ints_rp {K : PySem.W.Frag} {φ ψ : List Addr} {H : Hp} : ∀ ns : List Int, RpL K φ ψ H (ns.map D.int) (ns.map V.int)
  | [] => .nil
  | _ :: ns => .cons rfl (ints_rp ns)
theorem spL_spF {K : PySem.W.Frag} {mg : Str → Option Value} {F : FN} (hF : ∀ ns : List Int, ns.length ≤ 63 → ∃ μ, F [.fro (ns.map .int)] [] = .ok (.bl true) μ) {vs : List V} {H : Hp} {Q : VK} {E : XK} (h : spL K vs H Q E) : spF K mg 1 F vs H Q E := by
  obtain ⟨a, ns, rfl, hz, hl, q⟩ := h
  obtain ⟨μ, e⟩ := hF ns hl
  refine ⟨rfl, [], [], [], [], [.fro (ns.map .int)], ?_, .cons ⟨a, _, rfl, hz, ints_rp ns⟩ .nil, ?_⟩
  · exact ⟨rfl, List.nodup_nil, (fun k c a h => by simp at h), (fun a h => by cases h), (fun a h => by cases h)⟩
  · rw [e]
    intro v φ' N H' _ _ _ r _
    cases r
    exact q H'
theorem walkL {l : PySem.W.OpenLaw} {k : Nat} {q : Program} {loose : List Str} {XP : (Str → Option Value) → Heap → Prop} {YP : World → Heap → Prop} {d : DefRec} {K : Params → PySem.W.Frag} (hn : l.most = some 63) (hdf : d.params.defaults = []) (hr : Room k callerA)
    (hY : ∀ (w : World) (h : Heap), YP w h → (K w.params).In h)
    (F : ∀ (w : World) (mg : Str → Option Value) (fa : Addr) (h : Heap), (K w.params).In h → h.Ns mainGlobals mg → mg d.name = some (.ref fa) →
      ∃ fd : FuncData, (∀ (s : Shared) (u : Value), BindsTo s fd ⟨[u], []⟩ [("script", u)]) ∧ ∀ base : Heap, (K w.params).In base → base.Ns mainGlobals mg → FnOk l.prog w (K w.params) mg base (L2.CX l.prog w) k fa fd ["script"] (spL (K w.params))) :
    PySem.W.WalkO q loose XP YP l.row.toRowW d [] (fun f vs => PySem.call f vs) :=
  L2.walk_of (n := 63) (k := k) (x := "script") (CX := fun w => L2.CX l.prog w) (sp := fun w => spL (K w.params)) hn (by decide) hdf hr hY F
    (fun _ H a ns hl hO hS => ⟨a, ns, rfl, by
      rcases hS with (h | h) | h
      · rcases hO a with e | ⟨o, xs, e⟩ <;> (rw [e] at h; cases h)
      · exact .inl h
      · exact .inr h, hl, fun _ => rfl⟩)
    fun _ _ _ _ _ h => by
      obtain ⟨_, _, _, _, _, _, _, _, _, _, _, _, z⟩ := h
      exact z.elim
theorem funD_mk {K : PySem.W.Frag} {x qual : Str} {st : Stmt} {f : Addr} {oc : Value} {od an : Option Addr} {osl : Array (Option Value)} {kV doc pm cdv ct : Value} (l : K.lookup f = some ⟨oc, od, .func (PySem.W.fnOf x qual (defArgs st) (defBody st) (defScope st) .none kV doc pm an cdv ct), osl⟩)
    (c : PySem.W.codeIn K cdv qual = true) (k : PySem.W.keepIn K (.ref f) = true) : FunD K x qual (defArgs st) (defBody st) (defScope st) [] [] f (PySem.W.fnOf x qual (defArgs st) (defBody st) (defScope st) .none kV doc pm an cdv ct) :=
  ⟨⟨oc, od, .none, kV, doc, pm, an, cdv, ct, osl, rfl, l, c, .inl ⟨rfl, rfl⟩, .inl rfl⟩, k⟩
theorem funD_mkD {K : PySem.W.Frag} {x qual : Str} {st : Stmt} {f T : Addr} {oc : Value} {od an : Option Addr} {osl : Array (Option Value)} {kV doc pm cdv ct : Value} {dvs : List V} {its : List Value} {o : Obj} {n : Nat} (l : K.lookup f = some ⟨oc, od, .func (PySem.W.fnOf x qual (defArgs st) (defBody st) (defScope st) (.ref T) kV doc pm an cdv ct), osl⟩)
    (c : PySem.W.codeIn K cdv qual = true) (k : PySem.W.keepIn K (.ref f) = true) (hd : dvs ≠ []) (lT : K.lookup T = some o) (ho : o.data = .seq its.toArray n) (r : Vals dvs its) : FunD K x qual (defArgs st) (defBody st) (defScope st) dvs [] f (PySem.W.fnOf x qual (defArgs st) (defBody st) (defScope st) (.ref T) kV doc pm an cdv ct) :=
  ⟨⟨oc, od, .ref T, kV, doc, pm, an, cdv, ct, osl, rfl, l, c, .inr ⟨hd, T, o, its, n, rfl, lT, ho, r⟩, .inl rfl⟩, k⟩
end FP
/-! Core12: running the plain functions by simp: each combinator at a place, what comes behind it as a named function (so that nothing is run before its turn). -/
namespace FP
open PySem PySem.Spec L2 PySem.W
open PyProof.Rows hiding St

section
variable (η : Env') (μ : Mem) (a b c m ma mb mk : MV) (ms : ML) (p q : MB) (mo mo2 : MO) (mi : MI) (x y : FP.D) (ds : List FP.D) (i j n : Nat) (ω : List Nat)

@[simp] theorem x_c (d : FP.D) : mC d η μ = .ok d μ := (Eq.refl _).trans (Eq.refl _)
@[simp] theorem x_var : mVar i η μ = (match η[i]? with | some (some d) => .ok d μ | _ => .stuck) := (Eq.refl _).trans (Eq.refl _)
@[simp] theorem x_nil : aNil η μ = .ok [] μ := (Eq.refl _).trans (Eq.refl _)
def kCons2 (d : FP.D) : List FP.D → Mem → R (List FP.D) := fun ds μ => .ok (d :: ds) μ
@[simp] theorem xk_cons2 (d : FP.D) : kCons2 d ds μ = .ok (d :: ds) μ := (Eq.refl _).trans (Eq.refl _)
def kCons1 (ms : ML) (η : Env') : FP.D → Mem → R (List FP.D) := fun d μ => (ms η μ).bind (kCons2 d)
@[simp] theorem xk_cons1 : kCons1 ms η x μ = (ms η μ).bind (kCons2 x) := (Eq.refl _).trans (Eq.refl _)
@[simp] theorem x_cons : aCons m ms η μ = (m η μ).bind (kCons1 ms η) := (Eq.refl _).trans (Eq.refl _)
def kOp1 (f : FP.D → FP.D → Mem → R FP.D) (b : MV) (η : Env') : FP.D → Mem → R FP.D := fun x μ => (b η μ).bind (f x)
@[simp] theorem xk_op1 (f : FP.D → FP.D → Mem → R FP.D) : kOp1 f b η x μ = (b η μ).bind (f x) := (Eq.refl _).trans (Eq.refl _)
@[simp] theorem x_op (f : FP.D → FP.D → Mem → R FP.D) : mOp f a b η μ = (a η μ).bind (kOp1 f b η) := (Eq.refl _).trans (Eq.refl _)
def kTup  : List FP.D → Mem → R FP.D := fun ds μ => if ds.length ≤ 10000000 then .ok (.tup ds) μ else .stuck
@[simp] theorem xk_Tup : kTup ds μ = (if ds.length ≤ 10000000 then .ok (.tup ds) μ else .stuck) := (Eq.refl _).trans (Eq.refl _)
@[simp] theorem x_Tup : mTup ms η μ = (ms η μ).bind kTup := (Eq.refl _).trans (Eq.refl _)
def kLst  : List FP.D → Mem → R FP.D := fun ds μ => if ds.length ≤ 10000000 then .ok (.lst ds) μ else .stuck
@[simp] theorem xk_Lst : kLst ds μ = (if ds.length ≤ 10000000 then .ok (.lst ds) μ else .stuck) := (Eq.refl _).trans (Eq.refl _)
@[simp] theorem x_Lst : mLst ms η μ = (ms η μ).bind kLst := (Eq.refl _).trans (Eq.refl _)
def kTupP  : List FP.D → Mem → R FP.D := fun ds μ => if ds.length ≤ 10000000 then .ok (.ptu ds) μ else .stuck
@[simp] theorem xk_TupP : kTupP ds μ = (if ds.length ≤ 10000000 then .ok (.ptu ds) μ else .stuck) := (Eq.refl _).trans (Eq.refl _)
@[simp] theorem x_TupP : mTupP ms η μ = (ms η μ).bind kTupP := (Eq.refl _).trans (Eq.refl _)
def kSl2 (f : FP.D → Option Int → Option Int → Mem → R FP.D) (o : FP.D) (l : Option Int) : Option Int → Mem → R FP.D := fun h μ => f o l h μ
@[simp] theorem xk_sl2 (f : FP.D → Option Int → Option Int → Mem → R FP.D) (o : FP.D) (l h : Option Int) : kSl2 f o l h μ = f o l h μ := (Eq.refl _).trans (Eq.refl _)
def kSl1 (f : FP.D → Option Int → Option Int → Mem → R FP.D) (o : FP.D) (hi : MO) (η : Env') : Option Int → Mem → R FP.D := fun l μ => (hi η μ).bind (kSl2 f o l)
@[simp] theorem xk_sl1 (f : FP.D → Option Int → Option Int → Mem → R FP.D) (o : FP.D) (l : Option Int) : kSl1 f o mo2 η l μ = (mo2 η μ).bind (kSl2 f o l) := (Eq.refl _).trans (Eq.refl _)
def kSl0 (f : FP.D → Option Int → Option Int → Mem → R FP.D) (lo hi : MO) (η : Env') : FP.D → Mem → R FP.D := fun o μ => (lo η μ).bind (kSl1 f o hi η)
@[simp] theorem xk_sl0 (f : FP.D → Option Int → Option Int → Mem → R FP.D) : kSl0 f mo mo2 η x μ = (mo η μ).bind (kSl1 f x mo2 η) := (Eq.refl _).trans (Eq.refl _)
@[simp] theorem x_sl : mSl a mo mo2 η μ = (a η μ).bind (kSl0 fSl mo mo2 η) := (Eq.refl _).trans (Eq.refl _)
@[simp] theorem x_slP : mSlP a mo mo2 η μ = (a η μ).bind (kSl0 fSlP mo mo2 η) := (Eq.refl _).trans (Eq.refl _)
@[simp] theorem x_oNone : oNone η μ = .ok none μ := (Eq.refl _).trans (Eq.refl _)
def kSome : FP.D → Mem → R (Option Int) := fun d μ1 => match d with
  | .int i => .ok (some i) μ1
  | _ => .stuck
@[simp] theorem xk_some (z : Int) : kSome (.int z) μ = .ok (some z) μ := (Eq.refl _).trans (Eq.refl _)
@[simp] theorem x_oSome : oSome m η μ = (m η μ).bind kSome := (Eq.refl _).trans (Eq.refl _)
def kIf (a b : MV) (η : Env') : Bool → Mem → R FP.D := fun x μ => if x = true then a η μ else b η μ
@[simp] theorem xk_if_t : kIf a b η true μ = a η μ := (Eq.refl _).trans (Eq.refl _)
@[simp] theorem xk_if_f : kIf a b η false μ = b η μ := (Eq.refl _).trans (Eq.refl _)
@[simp] theorem x_if : mIf p a b η μ = (p η μ).bind (kIf a b η) := (Eq.refl _).trans (Eq.refl _)
def kAnd (b : MV) (η : Env') : FP.D → Mem → R FP.D := fun d μ1 => match d with
  | .bl true => b η μ1
  | .bl false => .ok (.bl false) μ1
  | _ => .stuck
@[simp] theorem xk_and_t : kAnd b η (.bl true) μ = b η μ := (Eq.refl _).trans (Eq.refl _)
@[simp] theorem xk_and_f : kAnd b η (.bl false) μ = .ok (.bl false) μ := (Eq.refl _).trans (Eq.refl _)
@[simp] theorem x_and : mAnd a b η μ = (a η μ).bind (kAnd b η) := (Eq.refl _).trans (Eq.refl _)
def kOr (b : MV) (η : Env') : FP.D → Mem → R FP.D := fun d μ1 => match d with
  | .bl false => b η μ1
  | .bl true => .ok (.bl true) μ1
  | _ => .stuck
@[simp] theorem xk_or_f : kOr b η (.bl false) μ = b η μ := (Eq.refl _).trans (Eq.refl _)
@[simp] theorem xk_or_t : kOr b η (.bl true) μ = .ok (.bl true) μ := (Eq.refl _).trans (Eq.refl _)
@[simp] theorem x_or : mOr a b η μ = (a η μ).bind (kOr b η) := (Eq.refl _).trans (Eq.refl _)
def kNot : FP.D → Mem → R FP.D := fun d μ1 => match d with
  | .bl b => .ok (.bl (!b)) μ1
  | _ => .stuck
@[simp] theorem xk_not (z : Bool) : kNot (.bl z) μ = .ok (.bl (!z)) μ := (Eq.refl _).trans (Eq.refl _)
@[simp] theorem x_not : mNot a η μ = (a η μ).bind kNot := (Eq.refl _).trans (Eq.refl _)
def kNeg : FP.D → Mem → R FP.D := fun d μ1 => match d with
  | .int i => .ok (.int (-i)) μ1
  | _ => .stuck
@[simp] theorem xk_neg (z : Int) : kNeg (.int z) μ = .ok (.int (-z)) μ := (Eq.refl _).trans (Eq.refl _)
@[simp] theorem x_neg : mNeg a η μ = (a η μ).bind kNeg := (Eq.refl _).trans (Eq.refl _)
def kCh3 (g : FP.D → FP.D → Mem → R FP.D) (y : FP.D) (c : MV) (η : Env') : FP.D → Mem → R FP.D := fun z μ3 => match z with
  | .bl true => (c η μ3).bind (g y)
  | .bl false => .ok (.bl false) μ3
  | _ => .stuck
@[simp] theorem xk_ch3_t (g : FP.D → FP.D → Mem → R FP.D) : kCh3 g y c η (.bl true) μ = (c η μ).bind (g y) := (Eq.refl _).trans (Eq.refl _)
@[simp] theorem xk_ch3_f (g : FP.D → FP.D → Mem → R FP.D) : kCh3 g y c η (.bl false) μ = .ok (.bl false) μ := (Eq.refl _).trans (Eq.refl _)
def kCh2 (f g : FP.D → FP.D → Mem → R FP.D) (x : FP.D) (c : MV) (η : Env') : FP.D → Mem → R FP.D := fun y μ => (f x y μ).bind (kCh3 g y c η)
@[simp] theorem xk_ch2 (f g : FP.D → FP.D → Mem → R FP.D) : kCh2 f g x c η y μ = (f x y μ).bind (kCh3 g y c η) := (Eq.refl _).trans (Eq.refl _)
def kCh1 (f g : FP.D → FP.D → Mem → R FP.D) (b c : MV) (η : Env') : FP.D → Mem → R FP.D := fun x μ => (b η μ).bind (kCh2 f g x c η)
@[simp] theorem xk_ch1 (f g : FP.D → FP.D → Mem → R FP.D) : kCh1 f g b c η x μ = (b η μ).bind (kCh2 f g x c η) := (Eq.refl _).trans (Eq.refl _)
@[simp] theorem x_chain (f g : FP.D → FP.D → Mem → R FP.D) : mChain f g a b c η μ = (a η μ).bind (kCh1 f g b c η) := (Eq.refl _).trans (Eq.refl _)
@[simp] theorem x_call (f : List FP.D → Mem → R FP.D) : mCall f ms η μ = (ms η μ).bind f := (Eq.refl _).trans (Eq.refl _)
def kIsi (t : Ty) : FP.D → Mem → R FP.D := fun d μ1 => match tyD μ1 d with
  | some u => .ok (.bl (isi u t)) μ1
  | none => .stuck
@[simp] theorem xk_isi (t : Ty) : kIsi t x μ = (match tyD μ x with | some u => .ok (.bl (isi u t)) μ | none => .stuck) := (Eq.refl _).trans (Eq.refl _)
@[simp] theorem x_isi (t : Ty) : mIsi m t η μ = (m η μ).bind (kIsi t) := (Eq.refl _).trans (Eq.refl _)
def kFn (F : FN) (n : Nat) (dds : List FP.D) : List FP.D → Mem → R FP.D := fun ds μ1 => if ds.length + dds.length = n then F (ds ++ dds) μ1 else .stuck
@[simp] theorem xk_fn (F : FN) (dds : List FP.D) : kFn F n dds ds μ = (if ds.length + dds.length = n then F (ds ++ dds) μ else .stuck) := (Eq.refl _).trans (Eq.refl _)
@[simp] theorem x_fn (F : FN) (dds : List FP.D) : mFn F n dds ms η μ = (ms η μ).bind (kFn F n dds) := (Eq.refl _).trans (Eq.refl _)
def kM1 (f : Str → FP.D → Mem → R FP.D) (me : MV) (η : Env') : FP.D → Mem → R FP.D := fun o μ1 => match o with
  | .str a => (me η μ1).bind (f a)
  | _ => .stuck
@[simp] theorem xk_m1 (f : Str → FP.D → Mem → R FP.D) (s : Str) : kM1 f m η (.str s) μ = (m η μ).bind (f s) := (Eq.refl _).trans (Eq.refl _)
@[simp] theorem x_m1 (f : Str → FP.D → Mem → R FP.D) : mM1 f a m η μ = (a η μ).bind (kM1 f m η) := (Eq.refl _).trans (Eq.refl _)
def kLc (g : Tg) (tst : MB) (elt : MV) (η : Env') : List FP.D → Mem → R FP.D := fun ds μ => lcLoop g tst elt η ds [] μ
@[simp] theorem xk_lc (g : Tg) : kLc g p m η ds μ = lcLoop g p m η ds [] μ := (Eq.refl _).trans (Eq.refl _)
@[simp] theorem x_lc (g : Tg) (vs : List Nat) : mLc mi g vs p m η μ = (mi η μ).bind (kLc g p m (wipeD η vs)) := (Eq.refl _).trans (Eq.refl _)
def kTst : FP.D → Mem → R Bool := fun d μ1 => match d with
  | .bl b => .ok b μ1
  | _ => .stuck
@[simp] theorem xk_tst (z : Bool) : kTst (.bl z) μ = .ok z μ := (Eq.refl _).trans (Eq.refl _)
@[simp] theorem x_tst : mTst m η μ = (m η μ).bind kTst := (Eq.refl _).trans (Eq.refl _)
def kBAnd (b : MB) (η : Env') : Bool → Mem → R Bool := fun x μ1 => if x = true then b η μ1 else .ok false μ1
@[simp] theorem xk_band_t : kBAnd q η true μ = q η μ := (Eq.refl _).trans (Eq.refl _)
@[simp] theorem xk_band_f : kBAnd q η false μ = .ok false μ := (Eq.refl _).trans (Eq.refl _)
@[simp] theorem x_band : bAnd p q η μ = (p η μ).bind (kBAnd q η) := (Eq.refl _).trans (Eq.refl _)
def kBOr (b : MB) (η : Env') : Bool → Mem → R Bool := fun x μ1 => if x = true then .ok true μ1 else b η μ1
@[simp] theorem xk_bor_t : kBOr q η true μ = .ok true μ := (Eq.refl _).trans (Eq.refl _)
@[simp] theorem xk_bor_f : kBOr q η false μ = q η μ := (Eq.refl _).trans (Eq.refl _)
@[simp] theorem x_bor : bOr p q η μ = (p η μ).bind (kBOr q η) := (Eq.refl _).trans (Eq.refl _)
def kBNot : Bool → Mem → R Bool := fun x μ1 => .ok (!x) μ1
@[simp] theorem xk_bnot (z : Bool) : kBNot z μ = .ok (!z) μ := (Eq.refl _).trans (Eq.refl _)
@[simp] theorem x_bnot : bNot p η μ = (p η μ).bind kBNot := (Eq.refl _).trans (Eq.refl _)
@[simp] theorem x_btrue : bTrue η μ = .ok true μ := (Eq.refl _).trans (Eq.refl _)
def kChk (f : FP.D → Bool) : FP.D → Mem → R FP.D := fun d μ1 => if f d = true then .ok d μ1 else .stuck
@[simp] theorem xk_chk (f : FP.D → Bool) : kChk f x μ = (if f x = true then .ok x μ else .stuck) := (Eq.refl _).trans (Eq.refl _)
@[simp] theorem x_chk (f : FP.D → Bool) : mChk f m η μ = (m η μ).bind (kChk f) := (Eq.refl _).trans (Eq.refl _)
def kOf : FP.D → Mem → R (List FP.D) := fun d μ1 => match itemsD d with
  | some l => .ok l μ1
  | none => .stuck
@[simp] theorem xk_of : kOf x μ = (match itemsD x with | some l => .ok l μ | none => .stuck) := (Eq.refl _).trans (Eq.refl _)
@[simp] theorem x_of : iOf m η μ = (m η μ).bind kOf := (Eq.refl _).trans (Eq.refl _)
def kOfN : FP.D → Mem → R (List FP.D) := fun d μ1 => match itemsN d with
  | some l => .ok l μ1
  | none => .stuck
@[simp] theorem xk_ofN : kOfN x μ = (match itemsN x with | some l => .ok l μ | none => .stuck) := (Eq.refl _).trans (Eq.refl _)
@[simp] theorem x_ofN : iOfN m η μ = (m η μ).bind kOfN := (Eq.refl _).trans (Eq.refl _)
@[simp] theorem x_ofL : iOfL m η μ = (m η μ).bind kOf := (Eq.refl _).trans (Eq.refl _)
def kRng1 : List FP.D → Mem → R (List FP.D) := fun ds μ1 => match ds with
  | [.int j] => if (decide (-(2 ^ 62) ≤ j) && decide (j < 2 ^ 62)) = true then .ok ((List.range j.toNat).map fun i => .int (0 + (i : Nat))) μ1 else .stuck
  | _ => .stuck
@[simp] theorem xk_rng1 (z : Int) : kRng1 [.int z] μ = (if (decide (-(2 ^ 62) ≤ z) && decide (z < 2 ^ 62)) = true then .ok ((List.range z.toNat).map fun i => .int (0 + (i : Nat))) μ else .stuck) := (Eq.refl _).trans (Eq.refl _)
@[simp] theorem x_rng1 : iRange1 ms η μ = (ms η μ).bind kRng1 := (Eq.refl _).trans (Eq.refl _)
def kRng2 : List FP.D → Mem → R (List FP.D) := fun ds μ1 => match ds with
  | [.int i, .int j] => if (decide (-(2 ^ 62) ≤ i) && decide (i < 2 ^ 62) && decide (-(2 ^ 62) ≤ j) && decide (j < 2 ^ 62)) = true then .ok ((List.range (j - i).toNat).map fun k => .int (i + (k : Nat))) μ1 else .stuck
  | _ => .stuck
@[simp] theorem xk_rng2 (z w : Int) : kRng2 [.int z, .int w] μ = (if (decide (-(2 ^ 62) ≤ z) && decide (z < 2 ^ 62) && decide (-(2 ^ 62) ≤ w) && decide (w < 2 ^ 62)) = true then .ok ((List.range (w - z).toNat).map fun k => .int (z + (k : Nat))) μ else .stuck) := (Eq.refl _).trans (Eq.refl _)
@[simp] theorem x_rng2 : iRange2 ms η μ = (ms η μ).bind kRng2 := (Eq.refl _).trans (Eq.refl _)
end
section
variable (η : Env') (μ : Mem) (a b c m ma mb mk : MV) (ms : ML) (p q : MB) (mi : MI) (x y : FP.D) (ds : List FP.D) (i j n : Nat) (ω : List Nat) (s t body : MS)
@[simp] theorem lift_ok {α : Type} (v : α) (g : α → Mem → RS) : liftR (.ok v μ) η g = g v μ := (Eq.refl _).trans (Eq.refl _)
@[simp] theorem lift_exc {α : Type} (e : Exn) (g : α → Mem → RS) : liftR (.exc e μ) η g = .exc e η μ := (Eq.refl _).trans (Eq.refl _)
@[simp] theorem lift_stuck {α : Type} (g : α → Mem → RS) : liftR .stuck η g = .stuck := (Eq.refl _).trans (Eq.refl _)
@[simp] theorem y_nx : RS.bind (.nx η μ) s = s η μ := (Eq.refl _).trans (Eq.refl _)
@[simp] theorem y_rt : RS.bind (.rt x μ) s = .rt x μ := (Eq.refl _).trans (Eq.refl _)
@[simp] theorem y_bk : RS.bind (.bk η μ) s = .bk η μ := (Eq.refl _).trans (Eq.refl _)
@[simp] theorem y_ct : RS.bind (.ct η μ) s = .ct η μ := (Eq.refl _).trans (Eq.refl _)
@[simp] theorem y_exc (e : Exn) : RS.bind (.exc e η μ) s = .exc e η μ := (Eq.refl _).trans (Eq.refl _)
@[simp] theorem x_seq : sSeq s t η μ = (s η μ).bind t := (Eq.refl _).trans (Eq.refl _)
@[simp] theorem x_next : sNext η μ = .nx η μ := (Eq.refl _).trans (Eq.refl _)
@[simp] theorem x_retN : sRetN η μ = .rt .non μ := (Eq.refl _).trans (Eq.refl _)
@[simp] theorem x_break : sBreak η μ = .bk η μ := (Eq.refl _).trans (Eq.refl _)
@[simp] theorem x_cont : sCont η μ = .ct η μ := (Eq.refl _).trans (Eq.refl _)
def kSIf (s t : MS) (η : Env') : Bool → Mem → RS := fun x μ => if x = true then s η μ else t η μ
@[simp] theorem xk_sif_t : kSIf s t η true μ = s η μ := (Eq.refl _).trans (Eq.refl _)
@[simp] theorem xk_sif_f : kSIf s t η false μ = t η μ := (Eq.refl _).trans (Eq.refl _)
@[simp] theorem x_sif : sIf p s t η μ = liftR (p η μ) η (kSIf s t η) := (Eq.refl _).trans (Eq.refl _)
def kSet (ω : List Nat) (i : Nat) (η : Env') : FP.D → Mem → RS := fun d μ1 => if (ω.isEmpty || noL d) = true then .nx (η.set i (some d)) μ1 else .stuck
@[simp] theorem xk_set : kSet ω i η x μ = (if (ω.isEmpty || noL x) = true then .nx (η.set i (some x)) μ else .stuck) := (Eq.refl _).trans (Eq.refl _)
@[simp] theorem x_set : sSet ω i m η μ = liftR (m η μ) η (kSet ω i η) := (Eq.refl _).trans (Eq.refl _)
def kRet (f : FP.D → Bool) : FP.D → Mem → RS := fun d μ1 => if f d = true then .rt d μ1 else .stuck
@[simp] theorem xk_ret (f : FP.D → Bool) : kRet f x μ = (if f x = true then .rt x μ else .stuck) := (Eq.refl _).trans (Eq.refl _)
@[simp] theorem x_ret : sRet m η μ = liftR (m η μ) η (kRet noL) := (Eq.refl _).trans (Eq.refl _)
@[simp] theorem x_retF : sRetF m η μ = liftR (m η μ) η (kRet retOk) := (Eq.refl _).trans (Eq.refl _)
def kDrop (η : Env') : FP.D → Mem → RS := fun _ μ1 => .nx η μ1
@[simp] theorem xk_drop : kDrop η x μ = .nx η μ := (Eq.refl _).trans (Eq.refl _)
@[simp] theorem x_drop : sDrop m η μ = liftR (m η μ) η (kDrop η) := (Eq.refl _).trans (Eq.refl _)
def kOwn (i : Nat) (η : Env') : FP.D → Mem → RS := fun d μ1 => match d with
  | .lst l => if noLs l = true then .nx (η.set i (some (.lst l))) μ1 else .stuck
  | _ => .stuck
@[simp] theorem xk_own : kOwn i η (.lst ds) μ = (if noLs ds = true then .nx (η.set i (some (.lst ds))) μ else .stuck) := (Eq.refl _).trans (Eq.refl _)
@[simp] theorem x_own : sOwn i m η μ = liftR (m η μ) η (kOwn i η) := (Eq.refl _).trans (Eq.refl _)
@[simp] theorem x_ownD : sOwnD i η μ = .nx (η.set i (some (.dic [] []))) μ := (Eq.refl _).trans (Eq.refl _)
@[simp] theorem x_retOwn : sRetOwn ω i η μ = (if i ∈ ω then (match η[i]? with | some (some d) => .rt d μ | _ => .stuck) else .stuck) := (Eq.refl _).trans (Eq.refl _)
def kAppend (i : Nat) (l : List FP.D) (η : Env') : FP.D → Mem → RS := fun d μ1 => if (noL d && decide (l.length < 10000000)) = true then .nx (η.set i (some (.lst (l ++ [d])))) μ1 else .stuck
@[simp] theorem xk_append : kAppend i ds η x μ = (if (noL x && decide (ds.length < 10000000)) = true then .nx (η.set i (some (.lst (ds ++ [x])))) μ else .stuck) := (Eq.refl _).trans (Eq.refl _)
@[simp] theorem x_append : sAppend ω i m η μ = (if i ∈ ω then (match η[i]? with | some (some (.lst l)) => liftR (m η μ) η (kAppend i l η) | _ => .stuck) else .stuck) := (Eq.refl _).trans (Eq.refl _)
def kDSet2 (i : Nat) (ks : List Key) (es : List FP.D) (d : FP.D) (η : Env') : FP.D → Mem → RS := fun kd μ2 => match keyD kd with
  | some k => if (noL d && decide (ks.length < 10000000)) = true then .nx (η.set i (some (.dic (dputK ks k) (dputV ks es k d)))) μ2 else .stuck
  | none => .stuck
@[simp] theorem xk_dset2 (ks : List Key) : kDSet2 i ks ds x η y μ = (match keyD y with | some k => (if (noL x && decide (ks.length < 10000000)) = true then .nx (η.set i (some (.dic (dputK ks k) (dputV ks ds k x)))) μ else .stuck) | none => .stuck) := (Eq.refl _).trans (Eq.refl _)
def kDSet1 (i : Nat) (ks : List Key) (es : List FP.D) (mk : MV) (η : Env') : FP.D → Mem → RS := fun d μ1 => liftR (mk η μ1) η (kDSet2 i ks es d η)
@[simp] theorem xk_dset1 (ks : List Key) : kDSet1 i ks ds mk η x μ = liftR (mk η μ) η (kDSet2 i ks ds x η) := (Eq.refl _).trans (Eq.refl _)
@[simp] theorem x_dset : sDSet ω i mk m η μ = (if i ∈ ω then (match η[i]? with | some (some (.dic ks es)) => liftR (m η μ) η (kDSet1 i ks es mk η) | _ => .stuck) else .stuck) := (Eq.refl _).trans (Eq.refl _)
def kCell (i : Nat) (η : Env') : List FP.D → Mem → RS := fun ds μ1 => if decide (ds.length ≤ 10000000) = true then .nx (η.set i (some (.ptr μ1.length))) (μ1 ++ [.lst ds]) else .stuck
@[simp] theorem xk_cell : kCell i η ds μ = (if decide (ds.length ≤ 10000000) = true then .nx (η.set i (some (.ptr μ.length))) (μ ++ [.lst ds]) else .stuck) := (Eq.refl _).trans (Eq.refl _)
@[simp] theorem x_cell : sCell i ms η μ = liftR (ms η μ) η (kCell i η) := (Eq.refl _).trans (Eq.refl _)
def kCS2 (c : Nat) (d : FP.D) (η : Env') : FP.D → Mem → RS := fun kd μ2 => match kd with
  | .int j => match μ2[c]? with
    | some (.lst l) => match (if noL d = true then setAt l j d else none) with
      | some l' => .nx η (μ2.set c (.lst l'))
      | none => .stuck
    | _ => .stuck
  | _ => .stuck
@[simp] theorem xk_cs2 (z : Int) : kCS2 n x η (.int z) μ = (match μ[n]? with | some (.lst l) => (match (if noL x = true then setAt l z x else none) with | some l' => .nx η (μ.set n (.lst l')) | none => .stuck) | _ => .stuck) := (Eq.refl _).trans (Eq.refl _)
def kCS1 (i : Nat) (mk : MV) (η : Env') : FP.D → Mem → RS := fun d μ1 => match η[i]? with
  | some (some (.ptr c)) => liftR (mk η μ1) η (kCS2 c d η)
  | _ => .stuck
@[simp] theorem xk_cs1 : kCS1 i mk η x μ = (match η[i]? with | some (some (.ptr c)) => liftR (mk η μ) η (kCS2 c x η) | _ => .stuck) := (Eq.refl _).trans (Eq.refl _)
@[simp] theorem x_cellSet : sCellSet i mk m η μ = liftR (m η μ) η (kCS1 i mk η) := (Eq.refl _).trans (Eq.refl _)
def kAsg (ω : List Nat) (g : Tg) (η : Env') : FP.D → Mem → RS := fun d μ1 => if (tgOk ω g && (ω.isEmpty || noL d)) = true then match bindT g d η with
  | some η1 => .nx η1 μ1
  | none => .stuck else .stuck
@[simp] theorem xk_asg (g : Tg) : kAsg ω g η x μ = (if (tgOk ω g && (ω.isEmpty || noL x)) = true then (match bindT g x η with | some η1 => .nx η1 μ | none => .stuck) else .stuck) := (Eq.refl _).trans (Eq.refl _)
@[simp] theorem x_asg (g : Tg) : sAsg ω g m η μ = liftR (m η μ) η (kAsg ω g η) := (Eq.refl _).trans (Eq.refl _)
def kPar2 (ω : List Nat) (i j : Nat) (a : FP.D) (η : Env') : FP.D → Mem → RS := fun b μ2 => if (!ω.contains i && !ω.contains j && (ω.isEmpty || (noL a && noL b))) = true then .nx ((η.set i (some a)).set j (some b)) μ2 else .stuck
@[simp] theorem xk_par2 : kPar2 ω i j x η y μ = (if (!ω.contains i && !ω.contains j && (ω.isEmpty || (noL x && noL y))) = true then .nx ((η.set i (some x)).set j (some y)) μ else .stuck) := (Eq.refl _).trans (Eq.refl _)
def kPar1 (ω : List Nat) (i j : Nat) (mb : MV) (η : Env') : FP.D → Mem → RS := fun a μ1 => liftR (mb η μ1) η (kPar2 ω i j a η)
@[simp] theorem xk_par1 : kPar1 ω i j mb η x μ = liftR (mb η μ) η (kPar2 ω i j x η) := (Eq.refl _).trans (Eq.refl _)
@[simp] theorem x_par : sPar ω i j ma mb η μ = liftR (ma η μ) η (kPar1 ω i j mb η) := (Eq.refl _).trans (Eq.refl _)
def kFor (ω : List Nat) (g : Tg) (body : MS) (η : Env') : List FP.D → Mem → RS := fun ds μ1 => if (tgOk ω g && (ω.isEmpty || noLs ds)) = true then forLoop g body ds η μ1 else .stuck
@[simp] theorem xk_for (g : Tg) : kFor ω g body η ds μ = (if (tgOk ω g && (ω.isEmpty || noLs ds)) = true then forLoop g body ds η μ else .stuck) := (Eq.refl _).trans (Eq.refl _)
@[simp] theorem x_for (g : Tg) : sFor ω g mi body η μ = liftR (mi η μ) η (kFor ω g body η) := (Eq.refl _).trans (Eq.refl _)
def kRun : RS → R FP.D
  | .nx _ μ' => .ok .non μ'
  | .rt d μ' => .ok d μ'
  | .exc x _ μ' => .exc x μ'
  | _ => .stuck
@[simp] theorem kRun_nx : kRun (.nx η μ) = .ok .non μ := (Eq.refl _).trans (Eq.refl _)
@[simp] theorem kRun_rt : kRun (.rt x μ) = .ok x μ := (Eq.refl _).trans (Eq.refl _)
@[simp] theorem kRun_exc (e : Exn) : kRun (.exc e η μ) = .exc e μ := (Eq.refl _).trans (Eq.refl _)
theorem run_is (B : MS) : runF n B ds μ = kRun (B (startD n ds) μ) := by
  unfold runF kRun
  cases B (startD n ds) μ <;> rfl
end
@[simp] theorem lc_nil (g : Tg) (t : MB) (e : MV) (η : Env') (acc : List FP.D) (μ : Mem) : lcLoop g t e η [] acc μ = .ok (.lst acc) μ := (Eq.refl _).trans (Eq.refl _)
@[simp] theorem for_nil (g : Tg) (b : MS) (η : Env') (μ : Mem) : forLoop g b [] η μ = .nx η μ := (Eq.refl _).trans (Eq.refl _)

end FP
/-! Core13: the draw. -/
namespace FP
open PySem PySem.Spec L2 PySem.W
open PyProof.Rows hiding St

/-- def _law_next(tape, many) -/
def B_next : MS :=
    (sSeq (sSet [] 2 (mOp fIxA (mVar 0) (mC (D.int 2))))
    (sSeq (sIf (mTst (mOp fEq (mVar 2) (mC (D.int 0)))) (sSeq (sSet [] 3 (mC (D.int 0)))
    (sSeq (sIf (mTst (mOp fLt (mOp fIxA (mVar 0) (mC (D.int 1))) (mCall fLen (aCons (mOp fIxA (mVar 0) (mC (D.int 0))) aNil)))) (sSeq (sSet [] 3 (mCall fAbs (aCons (mCall fInt (aCons (mOp fIxA (mOp fIxA (mVar 0) (mC (D.int 0))) (mOp fIxA (mVar 0) (mC (D.int 1)))) aNil)) aNil)))
    (sCellSet 0 (mC (D.int 1)) (mOp fAdd (mOp fIxA (mVar 0) (mC (D.int 1))) (mC (D.int 1))))) sNext)
    (sSeq (sSet [] 2 (mVar 3))
    (sIf (mTst (mOp fLt (mVar 3) (mOp fPow (mC (D.int 10)) (mC (D.int 18))))) (sSeq (sCellSet 0 (mC (D.int 3)) (mOp fMod (mCall fInt (aCons (mOp fAdd (mOp fAdd (mOp fMulA (mOp fIxA (mVar 0) (mC (D.int 3))) (mC (D.int 69621))) (mOp fMulA (mVar 3) (mC (D.int 40692)))) (mC (D.int 17))) aNil)) (mC (D.int 2147483647))))
    (sRet (mOp fMod (mOp fMod (mCall fInt (aCons (mOp fMulA (mCall fInt (aCons (mOp fDiv (mOp fIxA (mVar 0) (mC (D.int 3))) (mC (D.int 5))) aNil)) (mC (D.int 48271))) aNil)) (mC (D.int 2147483647))) (mVar 1)))) sNext)))) sNext)
    (sSeq (sCellSet 0 (mC (D.int 2)) (mOp fDiv (mVar 2) (mVar 1)))
    (sRet (mOp fMod (mCall fInt (aCons (mVar 2) aNil)) (mVar 1))))))
/-- the tape -/
def tp (l : List D) (i r s : Int) : Mem := [.lst [.lst l, .int i, .int r, .int s]]
structure Drawn (ns : List Int) (many : Int) (r : R D) : Prop where
  ex : ∃ v i' r' s', r = .ok (.int v) (tp (ns.map .int) i' r' s') ∧ 0 ≤ v ∧ v < many ∧ 0 ≤ i'
@[simp] theorem eq_int (i j : Int) (μ : Mem) : fEq (.int i) (.int j) μ = .ok (.bl (decide (i = j))) μ := by
  simp [fEq, eqD, scalD, eqS, Bool.beq_eq_decide_eq]
@[simp] theorem lt_int (i j : Int) (μ : Mem) : fLt (.int i) (.int j) μ = .ok (.bl (decide (i < j))) μ := (Eq.refl _).trans (Eq.refl _)
@[simp] theorem le_int (i j : Int) (μ : Mem) : fLe (.int i) (.int j) μ = .ok (.bl (decide (i ≤ j))) μ := (Eq.refl _).trans (Eq.refl _)
@[simp] theorem gt_int (i j : Int) (μ : Mem) : fGt (.int i) (.int j) μ = .ok (.bl (decide (j < i))) μ := (Eq.refl _).trans (Eq.refl _)
@[simp] theorem ge_int (i j : Int) (μ : Mem) : fGe (.int i) (.int j) μ = .ok (.bl (decide (j ≤ i))) μ := (Eq.refl _).trans (Eq.refl _)
@[simp] theorem add_int (i j : Int) (μ : Mem) : fAdd (.int i) (.int j) μ = .ok (.int (i + j)) μ := (Eq.refl _).trans (Eq.refl _)
@[simp] theorem sub_int (i j : Int) (μ : Mem) : fSub (.int i) (.int j) μ = .ok (.int (i - j)) μ := (Eq.refl _).trans (Eq.refl _)
@[simp] theorem int_int (i : Int) (μ : Mem) : fInt [.int i] μ = .ok (.int i) μ := (Eq.refl _).trans (Eq.refl _)
@[simp] theorem abs_int (i : Int) (μ : Mem) : fAbs [.int i] μ = .ok (.int (if i < 0 then -i else i)) μ := (Eq.refl _).trans (Eq.refl _)
theorem mul_k {i j : Int} (hj : -(2 ^ 64) < j ∧ j < 2 ^ 64) (μ : Mem) : fMulA (.int i) (.int j) μ = .ok (.int (i * j)) μ := by
  show (if mulOk i j = true then _ else _) = _
  rw [if_pos]
  unfold mulOk
  simp only [Bool.or_eq_true, Bool.and_eq_true, decide_eq_true_eq]
  exact .inr hj
theorem div_k {i j : Int} (h1 : 0 < j) (h2 : j < 1073741824) (μ : Mem) : fDiv (.int i) (.int j) μ = .ok (.int (i / j)) μ := by
  show (if (decide (0 < j) && decide (j < 1073741824)) = true then _ else _) = _
  rw [if_pos]
  simp [h1, h2]
theorem mod_k {i j : Int} (h1 : 0 < j) (μ : Mem) : fMod (.int i) (.int j) μ = .ok (.int (i % j)) μ := by
  show (if decide (0 < j) = true then _ else _) = _
  rw [if_pos]
  simp [h1]
theorem pow_18 (μ : Mem) : fPow (.int 10) (.int 18) μ = .ok (.int 1000000000000000000) μ := (Eq.refl _).trans (Eq.refl _)
theorem tp_ix0 (l : List D) (i r s : Int) : fIxA (.ptr 0) (.int 0) (tp l i r s) = .ok (.lst l) (tp l i r s) := (Eq.refl _).trans (Eq.refl _)
theorem tp_ix1 (l : List D) (i r s : Int) : fIxA (.ptr 0) (.int 1) (tp l i r s) = .ok (.int i) (tp l i r s) := (Eq.refl _).trans (Eq.refl _)
theorem tp_ix2 (l : List D) (i r s : Int) : fIxA (.ptr 0) (.int 2) (tp l i r s) = .ok (.int r) (tp l i r s) := (Eq.refl _).trans (Eq.refl _)
theorem tp_ix3 (l : List D) (i r s : Int) : fIxA (.ptr 0) (.int 3) (tp l i r s) = .ok (.int s) (tp l i r s) := (Eq.refl _).trans (Eq.refl _)
theorem tp_cs1 (η : Env') (l : List D) (i r s k : Int) : kCS2 0 (.int k) η (.int 1) (tp l i r s) = .nx η (tp l k r s) := (Eq.refl _).trans (Eq.refl _)
theorem tp_cs2 (η : Env') (l : List D) (i r s k : Int) : kCS2 0 (.int k) η (.int 2) (tp l i r s) = .nx η (tp l i k s) := (Eq.refl _).trans (Eq.refl _)
theorem tp_cs3 (η : Env') (l : List D) (i r s k : Int) : kCS2 0 (.int k) η (.int 3) (tp l i r s) = .nx η (tp l i r k) := (Eq.refl _).trans (Eq.refl _)
theorem len_lst (l : List D) (μ : Mem) : fLen [.lst l] μ = .ok (.int l.length) μ := (Eq.refl _).trans (Eq.refl _)
theorem ix_ints {ns : List Int} {i : Int} (h0 : 0 ≤ i) (h1 : i < ns.length) (μ : Mem) : fIxA (.lst (ns.map .int)) (.int i) μ = .ok (.int (ns.getD i.toNat 0)) μ := by
  have h : i.toNat < ns.length := by omega
  simp [fIxA, dicOf, fIx, aseq, lseq, atD, h0, h]
theorem next_ok {ns : List Int} {i r s many : Int} (hi : 0 ≤ i) (hm : 0 < many) (hm2 : many < 1073741824) : Drawn ns many (runF 4 B_next [.ptr 0, .int many] (tp (ns.map .int) i r s)) := by
  rw [run_is]
  have e48 : ∀ (z : Int) (μ : Mem), fMulA (.int z) (.int 69621) μ = .ok (.int (z * 69621)) μ := fun z μ => mul_k (by decide) μ
  have e49 : ∀ (z : Int) (μ : Mem), fMulA (.int z) (.int 40692) μ = .ok (.int (z * 40692)) μ := fun z μ => mul_k (by decide) μ
  have e50 : ∀ (z : Int) (μ : Mem), fMulA (.int z) (.int 48271) μ = .ok (.int (z * 48271)) μ := fun z μ => mul_k (by decide) μ
  have e51 : ∀ (z : Int) (μ : Mem), fDiv (.int z) (.int 5) μ = .ok (.int (z / 5)) μ := fun z μ => div_k (by decide) (by decide) μ
  have e52 : ∀ (z : Int) (μ : Mem), fMod (.int z) (.int 2147483647) μ = .ok (.int (z % 2147483647)) μ := fun z μ => mod_k (by decide) μ
  have e53 : ∀ (z : Int) (μ : Mem), fMod (.int z) (.int many) μ = .ok (.int (z % many)) μ := fun z μ => mod_k hm μ
  have e54 : ∀ (z : Int) (μ : Mem), fDiv (.int z) (.int many) μ = .ok (.int (z / many)) μ := fun z μ => div_k hm hm2 μ
  have nn : ∀ z : Int, 0 ≤ z % many ∧ z % many < many := fun z => ⟨Int.emod_nonneg _ (by omega), Int.emod_lt_of_pos _ hm⟩
  have dn : ∀ (z i' r' s' : Int), 0 ≤ i' → Drawn ns many (.ok (.int (z % many)) (tp (ns.map .int) i' r' s')) := fun z i' r' s' h => ⟨⟨_, _, _, _, rfl, (nn z).1, (nn z).2, h⟩⟩
  by_cases hr : r = 0
  · subst hr
    by_cases hl : i < ns.length
    · by_cases hb : (if ns.getD i.toNat 0 < 0 then -ns.getD i.toNat 0 else ns.getD i.toNat 0) < 1000000000000000000
      · simp [-xk_cs2, -List.getD_eq_getElem?_getD, B_next, startD, tp_ix0, tp_ix1, tp_ix2, tp_ix3, tp_cs1, tp_cs2, tp_cs3, len_lst, hl, ix_ints hi hl, pow_18, e48, e49, e50, e51, e52, e53, e54, noL, hb]
        exact dn _ _ _ _ (by omega)
      · simp [-xk_cs2, -List.getD_eq_getElem?_getD, B_next, startD, tp_ix0, tp_ix1, tp_ix2, tp_ix3, tp_cs1, tp_cs2, tp_cs3, len_lst, hl, ix_ints hi hl, pow_18, e48, e49, e50, e51, e52, e53, e54, noL, hb]
        exact dn _ _ _ _ (by omega)
    · simp [-xk_cs2, B_next, startD, tp_ix0, tp_ix1, tp_ix2, tp_ix3, tp_cs1, tp_cs2, tp_cs3, len_lst, hl, pow_18, e48, e49, e50, e51, e52, e53, e54, noL]
      exact dn _ _ _ _ (by omega)
  · simp [-xk_cs2, B_next, startD, tp_ix0, tp_ix1, tp_ix2, tp_ix3, tp_cs1, tp_cs2, tp_cs3, len_lst, hr, e53, e54, noL]
    exact dn _ _ _ _ hi
end FP
/-! Core14: equality of data, comprehensions and loops as list functions, the law's own equality. -/
namespace FP
open PySem PySem.Spec L2 PySem.W
open PyProof.Rows hiding St

mutual
def dat : D → Bool
  | .non => true | .bl _ => true | .int _ => true | .str s => PyData.strOk s
  | .tup l => dats l | .lst l => dats l | .fro l => dats l | .ptu l => dats l
  | .dic _ _ => false | .ptr _ => false
def dats : List D → Bool
  | [] => true
  | d :: l => dat d && dats l
end
mutual
def dep : D → Nat
  | .tup l => deps l + 1 | .lst l => deps l + 1 | .fro l => deps l + 1 | .ptu l => deps l + 1
  | _ => 0
def deps : List D → Nat
  | [] => 0
  | d :: l => max (dep d) (deps l)
end
mutual
def pd : D → PyData
  | .non => .none | .bl b => .bool b | .int i => .int i | .str s => .str s
  | .tup l => .tuple (pds l) | .lst l => .list (pds l) | .fro l => .list (pds l) | .ptu l => .tuple (pds l)
  | .dic _ _ => .none | .ptr _ => .none
def pds : List D → List PyData
  | [] => []
  | d :: l => pd d :: pds l
end
mutual
theorem toP_dat {μ : Mem} : ∀ {d : D}, dat d = true → toP μ d = some (pd d) ∧ (pd d).canLay0 = true ∧ (pd d).depth = dep d
  | .non, _ => ⟨rfl, rfl, rfl⟩
  | .bl _, _ => ⟨rfl, rfl, rfl⟩
  | .int _, _ => ⟨rfl, rfl, rfl⟩
  | .str s, h => ⟨rfl, by simpa [pd, PyData.canLay0, dat] using h, rfl⟩
  | .tup l, h => by
    obtain ⟨h1, h2, h3⟩ := toPs_dat (μ := μ) (l := l) (by simpa [dat] using h)
    exact ⟨by simp [toP, h1, pd], by simpa [pd, PyData.canLay0] using h2, by simp [pd, PyData.depth, dep, h3]⟩
  | .lst l, h => by
    obtain ⟨h1, h2, h3⟩ := toPs_dat (μ := μ) (l := l) (by simpa [dat] using h)
    exact ⟨by simp [toP, h1, pd], by simpa [pd, PyData.canLay0] using h2, by simp [pd, PyData.depth, dep, h3]⟩
  | .fro l, h => by
    obtain ⟨h1, h2, h3⟩ := toPs_dat (μ := μ) (l := l) (by simpa [dat] using h)
    exact ⟨by simp [toP, h1, pd], by simpa [pd, PyData.canLay0] using h2, by simp [pd, PyData.depth, dep, h3]⟩
  | .ptu l, h => by
    obtain ⟨h1, h2, h3⟩ := toPs_dat (μ := μ) (l := l) (by simpa [dat] using h)
    exact ⟨by simp [toP, h1, pd], by simpa [pd, PyData.canLay0] using h2, by simp [pd, PyData.depth, dep, h3]⟩
  | .dic _ _, h => by cases h
  | .ptr _, h => by cases h
theorem toPs_dat {μ : Mem} : ∀ {l : List D}, dats l = true → toPL μ l = some (pds l) ∧ PyData.canLayAll0 (pds l) = true ∧ PyData.depthAll (pds l) = deps l
  | [], _ => ⟨rfl, rfl, rfl⟩
  | d :: l, h => by
    simp only [dats, Bool.and_eq_true] at h
    obtain ⟨h1, h2, h3⟩ := toP_dat (μ := μ) (d := d) h.1
    obtain ⟨k1, k2, k3⟩ := toPs_dat (μ := μ) (l := l) h.2
    exact ⟨by simp [toPL, h1, k1, pds], by simp [pds, PyData.canLayAll0, h2, k2], by simp [pds, PyData.depthAll, h3, k3, deps]⟩
end
theorem scal_pd {d e : D} (h : scalD d e = true) : eqS d e = PyData.eqv (pd d) (pd e) := by
  cases d <;> cases e <;> first | (cases h; done) | rfl
theorem eqD_dat {d e : D} {μ : Mem} (hd : dat d = true) (he : dat e = true) (kd : dep d ≤ 64) (ke : dep e ≤ 64) : eqD μ d e = some (PyData.eqv (pd d) (pd e)) := by
  unfold eqD
  by_cases h : scalD d e = true
  · rw [if_pos h, scal_pd h]
  · obtain ⟨h1, h2, h3⟩ := toP_dat (μ := μ) hd
    obtain ⟨k1, k2, k3⟩ := toP_dat (μ := μ) he
    have s1 : SeqAt.shaped (pd d) = true := by simp [SeqAt.shaped, h2, h3, kd]
    have s2 : SeqAt.shaped (pd e) = true := by simp [SeqAt.shaped, k2, k3, ke]
    rw [if_neg h, h1, k1]
    simp [s1, s2]
theorem eq_dat {d e : D} {μ : Mem} (hd : dat d = true) (he : dat e = true) (kd : dep d ≤ 64) (ke : dep e ≤ 64) : fEq d e μ = .ok (.bl (PyData.eqv (pd d) (pd e))) μ := by
  unfold fEq; rw [eqD_dat hd he kd ke]
theorem ne_dat {d e : D} {μ : Mem} (hd : dat d = true) (he : dat e = true) (kd : dep d ≤ 64) (ke : dep e ≤ 64) : fNe d e μ = .ok (.bl (!PyData.eqv (pd d) (pd e))) μ := by
  unfold fNe; rw [eqD_dat hd he kd ke]
@[simp] theorem eq_str (a b : Str) (μ : Mem) : fEq (.str a) (.str b) μ = .ok (.bl (a == b)) μ := by
  simp [fEq, eqD, scalD, eqS]
@[simp] theorem ne_str (a b : Str) (μ : Mem) : fNe (.str a) (.str b) μ = .ok (.bl (!(a == b))) μ := by
  simp [fNe, eqD, scalD, eqS]
@[simp] theorem ne_int (i j : Int) (μ : Mem) : fNe (.int i) (.int j) μ = .ok (.bl (!decide (i = j))) μ := by
  simp [fNe, eqD, scalD, eqS, Bool.beq_eq_decide_eq]
@[simp] theorem eq_bl (i j : Bool) (μ : Mem) : fEq (.bl i) (.bl j) μ = .ok (.bl (i == j)) μ := by
  simp [fEq, eqD, scalD, eqS]
@[simp] theorem ne_bl (i j : Bool) (μ : Mem) : fNe (.bl i) (.bl j) μ = .ok (.bl (!(i == j))) μ := by
  simp [fNe, eqD, scalD, eqS]
@[simp] theorem eq_nil (μ : Mem) : fEq (.lst []) (.lst []) μ = .ok (.bl true) μ := (Eq.refl _).trans (Eq.refl _)

/-! comprehensions -/
theorem lc_all {g : Tg} {tst : MB} {elt : MV} {η : Env'} {μ : Mem} (p : D → Bool) (f : D → D) : ∀ (ds acc : List D), acc.length + ds.length ≤ 10000000 →
    (∀ d ∈ ds, ∃ η1, bindT g d η = some η1 ∧ tst η1 μ = .ok (p d) μ ∧ (p d = true → elt η1 μ = .ok (f d) μ)) → lcLoop g tst elt η ds acc μ = .ok (.lst (acc ++ (ds.filter p).map f)) μ
  | [], acc, _, _ => by simp
  | d :: ds, acc, hl, h => by
    obtain ⟨η1, h1, h2, h3⟩ := h d List.mem_cons_self
    have ih := fun acc' hl' => lc_all (g := g) (tst := tst) (elt := elt) (η := η) (μ := μ) p f ds acc' hl' fun e he => h e (List.mem_cons_of_mem _ he)
    have hl0 : acc.length < 10000000 := by simp at hl; omega
    unfold lcLoop
    simp only [h1, h2, noX, R.bind_ok]
    cases hp : p d with
    | true =>
      simp only [h3 hp, noX, R.bind_ok, if_true, hl0]
      rw [ih _ (by simp at hl ⊢; omega)]
      simp [hp]
    | false =>
      simp only [Bool.false_eq_true, if_false]
      rw [ih _ (by simp at hl ⊢; omega)]
      simp [hp]
theorem lc_map {g : Tg} {elt : MV} {η : Env'} {μ : Mem} (f : D → D) (ds acc : List D) (hl : acc.length + ds.length ≤ 10000000)
    (h : ∀ d ∈ ds, ∃ η1, bindT g d η = some η1 ∧ elt η1 μ = .ok (f d) μ) : lcLoop g bTrue elt η ds acc μ = .ok (.lst (acc ++ ds.map f)) μ := by
  rw [lc_all (fun _ => true) f ds acc hl fun d hd => by
    obtain ⟨η1, h1, h2⟩ := h d hd
    exact ⟨η1, h1, rfl, fun _ => h2⟩, List.filter_eq_self.mpr fun _ _ => rfl]
inductive All2 {α β : Type} (P : α → β → Prop) : List α → List β → Prop where
  | nil : All2 P [] []
  | cons {a : α} {b : β} {as : List α} {bs : List β} (h : P a b) (t : All2 P as bs) : All2 P (a :: as) (b :: bs)
/-- the memory may change: an invariant -/
theorem lc_inv {g : Tg} {elt : MV} {η : Env'} (I : Mem → Prop) (P : D → D → Prop) : ∀ (ds acc : List D) (μ : Mem), acc.length + ds.length ≤ 10000000 → I μ →
    (∀ d ∈ ds, ∀ μ, I μ → ∃ η1 e μ', bindT g d η = some η1 ∧ elt η1 μ = .ok e μ' ∧ I μ' ∧ P d e) →
    ∃ es μ', lcLoop g bTrue elt η ds acc μ = .ok (.lst (acc ++ es)) μ' ∧ I μ' ∧ All2 P ds es
  | [], acc, μ, _, i, _ => ⟨[], μ, by simp, i, .nil⟩
  | d :: ds, acc, μ, hl, i, h => by
    obtain ⟨η1, e, μ1, h1, h2, i1, p⟩ := h d List.mem_cons_self μ i
    have hl0 : acc.length < 10000000 := by simp at hl; omega
    obtain ⟨es, μ', k1, k2, k3⟩ := lc_inv (g := g) (elt := elt) (η := η) I P ds (acc ++ [e]) μ1 (by simp at hl ⊢; omega) i1 fun e he => h e (List.mem_cons_of_mem _ he)
    refine ⟨e :: es, μ', ?_, k2, .cons p k3⟩
    unfold lcLoop
    simp only [h1, h2, noX, R.bind_ok, x_btrue, if_true, hl0]
    rw [k1]
    simp
/-- a for loop with an invariant over what is done -/
theorem for_inv {g : Tg} {body : MS} (P : List D → Env' → Mem → Prop) : ∀ (ds done : List D) (η : Env') (μ : Mem), P done η μ →
    (∀ dn d rest, done ++ ds = dn ++ d :: rest → ∀ η μ, P dn η μ → ∃ η1 η2 μ2, bindT g d η = some η1 ∧ body η1 μ = .nx η2 μ2 ∧ P (dn ++ [d]) η2 μ2) →
    ∃ η' μ', forLoop g body ds η μ = .nx η' μ' ∧ P (done ++ ds) η' μ'
  | [], done, η, μ, p, _ => ⟨η, μ, rfl, by simpa using p⟩
  | d :: ds, done, η, μ, p, h => by
    obtain ⟨η1, η2, μ2, h1, h2, p2⟩ := h done d ds rfl η μ p
    obtain ⟨η', μ', k1, k2⟩ := for_inv (g := g) (body := body) P ds (done ++ [d]) η2 μ2 p2 fun dn e rest he => h dn e rest (by simpa using he)
    refine ⟨η', μ', ?_, by simpa using k2⟩
    unfold forLoop
    simp only [h1, h2]
    exact k1
theorem All2.len {α β : Type} {P : α → β → Prop} : ∀ {l : List α} {m : List β}, All2 P l m → m.length = l.length
  | _, _, .nil => rfl
  | _, _, .cons _ t => by simp [All2.len t]
theorem All2.right {α β : Type} {P : α → β → Prop} {Q : β → Prop} (h : ∀ a b, P a b → Q b) : ∀ {l : List α} {m : List β}, All2 P l m → ∀ b ∈ m, Q b
  | _, _, .nil, _, z => by cases z
  | _, _, .cons p t, b, z => by
    rcases List.mem_cons.mp z with rfl | z
    · exact h _ _ p
    · exact All2.right h t b z
theorem choose_on {α β : Type} [Inhabited β] {l : List α} {Q : α → β → Prop} (h : ∀ e ∈ l, ∃ b, Q e b) : ∃ f : α → β, ∀ e ∈ l, Q e (f e) := by
  classical
  exact ⟨fun e => if h' : e ∈ l then (h e h').choose else default, fun e he => by
    simp only [dif_pos he]
    exact (h e he).choose_spec⟩
theorem inD_strs (x : Str) : ∀ acc : List Str, inD (.str x) (acc.map .str) = decide (x ∈ acc)
  | [] => rfl
  | y :: acc => by
    have ih := inD_strs x acc
    unfold inD at ih ⊢
    rw [List.map_cons, List.any_cons, ih]
    by_cases h : y = x
    · subst h; simp [eqS]
    · have h' : ¬ x = y := fun e => h e.symm
      have hb : (y == x) = false := by simpa using h
      simp [eqS, hb, h']
theorem flat_strs : ∀ acc : List Str, (acc.map D.str).all flatD = true
  | [] => rfl
  | _ :: acc => by simp [flatD]
theorem notIn_strs (x : Str) (acc : List Str) (μ : Mem) : fInA true (.str x) (.lst (acc.map .str)) μ = .ok (.bl (!decide (x ∈ acc))) μ := by
  have h := flat_strs acc
  simp only [fInA, dicOf, fNotIn, isIn, aseq, lseq, flatD, h, Bool.true_and, if_true, inD_strs]
theorem noLs_strs : ∀ acc : List Str, noLs (acc.map D.str) = true
  | [] => rfl
  | _ :: acc => by simp [noLs, noL, noLs_strs acc]
/-- more letters, each once -/
def addTo (acc ls : List Str) : List Str := acc ++ ls.filter fun x => !decide (x ∈ acc)
theorem addTo_nodup {acc ls : List Str} (h : acc.Nodup) (h2 : ls.Nodup) : (addTo acc ls).Nodup := by
  unfold addTo
  refine List.nodup_append.mpr ⟨h, h2.filter _, ?_⟩
  intro a ha b hb e
  subst e
  simp only [List.mem_filter, Bool.not_eq_true', decide_eq_false_iff_not] at hb
  exact hb.2 ha
theorem addTo_length (acc ls : List Str) : (addTo acc ls).length ≤ acc.length + ls.length := by
  unfold addTo
  rw [List.length_append]
  have := List.length_filter_le (fun x => !decide (x ∈ acc)) ls
  omega
theorem hasK_strs (x : Str) : ∀ acc : List Str, hasK (acc.map Sum.inr) (.inr x : Key) = decide (x ∈ acc)
  | [] => rfl
  | y :: acc => by
    have ih := hasK_strs x acc
    unfold hasK at ih ⊢
    rw [List.map_cons, List.any_cons, ih]
    by_cases h : y = x
    · subst h; simp
    · have h' : ¬ x = y := fun e => h e.symm
      have hb : ¬ ((Sum.inr y : Key) = Sum.inr x) := fun e => h (Sum.inr.inj e)
      simp [hb, h']
theorem dputL_same (k : Key) (v : D) : ∀ ks : List Key, dputL k v ks (ks.map fun _ => v) = ks.map fun _ => v
  | [] => rfl
  | k' :: ks => by simp [dputL, dputL_same k v ks]
/-- d[x] = v for the letters, all values v -/
theorem dput_one (acc : List Str) (x : Str) (v : D) : dputK (acc.map Sum.inr) (.inr x : Key) = (addTo acc [x]).map Sum.inr ∧ dputV (acc.map Sum.inr) (acc.map fun _ => v) (.inr x : Key) v = (addTo acc [x]).map fun _ => v := by
  unfold dputK dputV
  rw [hasK_strs]
  by_cases h : x ∈ acc
  · have e : addTo acc [x] = acc := by simp [addTo, h]
    rw [e]
    have z := dputL_same (.inr x : Key) v (acc.map Sum.inr)
    rw [List.map_map] at z
    simp only [h, decide_true, if_true, true_and]
    exact z
  · simp [addTo, h]
theorem addTo_snoc {acc ls : List Str} {x : Str} (h : x ∉ ls) : addTo (addTo acc ls) [x] = addTo acc (ls ++ [x]) := by
  by_cases hx : x ∈ acc
  · have : x ∈ addTo acc ls := List.mem_append_left _ hx
    simp [addTo, hx]
  · simp [addTo, hx, h]
/-! ### the law's own equality -/
def B_same (S : FN) : MS :=
    (sSeq (sIf (mTst (mOp fIsN (mVar 1) (mC (D.non)))) (sRet (mOp fIsN (mVar 0) (mC (D.non)))) sNext)
    (sSeq (sIf (mTst (mIsi (mVar 1) .bool)) (sRet (mAnd (mIsi (mVar 0) .bool) (mOp fEq (mVar 0) (mVar 1)))) sNext)
    (sSeq (sIf (mTst (mIsi (mVar 1) .int)) (sRet (mAnd (mIsi (mVar 0) .int) (mAnd (mNot (mIsi (mVar 0) .bool)) (mOp fEq (mVar 0) (mVar 1))))) sNext)
    (sSeq (sIf (mTst (mIsi (mVar 1) .str)) (sRet (mAnd (mIsi (mVar 0) .str) (mOp fEq (mVar 0) (mVar 1)))) sNext)
    (sSeq (sIf (bOr (bAnd (mTst (mIsi (mVar 1) .list)) (bNot (mTst (mIsi (mVar 0) .list)))) (bAnd (mTst (mIsi (mVar 1) .tuple)) (bNot (mTst (mIsi (mVar 0) .tuple))))) (sRet (mC (D.bl false))) sNext)
    (sRet (mAnd (mOp fEq (mCall fLen (aCons (mVar 0) aNil)) (mCall fLen (aCons (mVar 1) aNil))) (mOp fEq (mLc (iRange1 (aCons (mCall fLen (aCons (mVar 1) aNil)) aNil)) (.nm 2) [2] (bNot (mTst (mFn S 2 [] (aCons (mOp fIxA (mVar 0) (mVar 2)) (aCons (mOp fIxA (mVar 1) (mVar 2)) aNil))))) (mC (D.int 1))) (mLst aNil)))))))))
mutual
/-- what the law's own equality compares -/
def nice : D → Bool
  | .non => true | .bl _ => true | .int _ => true | .str _ => true
  | .tup l => decide (l.length ≤ 10000000) && nices l | .lst l => decide (l.length ≤ 10000000) && nices l
  | _ => false
def nices : List D → Bool
  | [] => true
  | d :: l => nice d && nices l
end
theorem nices_all : ∀ {l : List D}, nices l = true → ∀ d ∈ l, nice d = true
  | [], _, _, h => by cases h
  | e :: l, h, d, hd => by
    simp only [nices, Bool.and_eq_true] at h
    rcases List.mem_cons.mp hd with rfl | hd
    · exact h.1
    · exact nices_all h.2 d hd
theorem deps_all : ∀ {l : List D} {n : Nat}, deps l ≤ n → ∀ d ∈ l, dep d ≤ n
  | [], _, _, _, h => by cases h
  | e :: l, n, h, d, hd => by
    simp only [deps] at h
    rcases List.mem_cons.mp hd with rfl | hd
    · omega
    · exact deps_all (l := l) (n := n) (by omega) d hd
theorem same_seq {S : FN} {μ : Mem} {l : List D} (hl : l.length ≤ 10000000) (hS : ∀ d ∈ l, S [d, d] μ = .ok (.bl true) μ) {x : D} (hx : x = .lst l ∨ x = .tup l) (η : Env') (h0 : η[0]? = some (some x)) (h1 : η[1]? = some (some x)) (h2 : η.length = 3) :
    lcLoop (.nm 2) (bNot (mTst (mFn S 2 [] (aCons (mOp fIxA (mVar 0) (mVar 2)) (aCons (mOp fIxA (mVar 1) (mVar 2)) aNil))))) (mC (D.int 1)) η ((List.range l.length).map fun i => .int (0 + (i : Nat))) [] μ = .ok (.lst []) μ := by
  rw [lc_all (fun _ => false) id _ _ (by simpa using hl)]
  · simp
  · intro d hd
    simp only [List.mem_map, List.mem_range] at hd
    obtain ⟨i, hi, rfl⟩ := hd
    refine ⟨_, rfl, ?_, fun h => by cases h⟩
    have g0 : (η.set 2 (some (D.int (0 + (i : Nat)))))[0]? = some (some x) := by simpa using h0
    have g1 : (η.set 2 (some (D.int (0 + (i : Nat)))))[1]? = some (some x) := by simpa using h1
    have g2 : (η.set 2 (some (D.int (0 + (i : Nat)))))[2]? = some (some (D.int (0 + (i : Nat)))) := by simp [h2]
    have ix : fIxA x (.int (0 + (i : Nat))) μ = .ok l[i] μ := by
      rcases hx with rfl | rfl <;> simp [fIxA, dicOf, fIx, aseq, lseq, atD, hi]
    have sd := hS l[i] (List.getElem_mem _)
    simp only [x_bnot, x_tst, x_fn, x_cons, x_op, x_var, g0, g1, g2, R.bind_ok, xk_cons1, xk_op1, ix, x_nil, xk_cons2, xk_fn]
    simp [sd]
theorem eq_int_self (i : Int) (μ : Mem) : fEq (.int i) (.int i) μ = .ok (.bl true) μ := by
  rw [eq_int, decide_eq_true rfl]
theorem len_tup (l : List D) (μ : Mem) : fLen [.tup l] μ = .ok (.int l.length) μ := (Eq.refl _).trans (Eq.refl _)
theorem rng1_nat {n : Nat} (h : n ≤ 10000000) (μ : Mem) : kRng1 [.int (n : Nat)] μ = .ok ((List.range n).map fun i => .int (0 + (i : Nat))) μ := by
  rw [xk_rng1, if_pos]
  · rw [Int.toNat_natCast]
  · have b1 : ((n : Nat) : Int) < 2 ^ 62 := by omega
    have b2 : (-(2 ^ 62) : Int) ≤ ((n : Nat) : Int) := by omega
    rw [decide_eq_true b1, decide_eq_true b2]
    rfl
theorem same_step {S : FN} {μ : Mem} {d : D} (hn : nice d = true) (hS : ∀ l, d = .tup l ∨ d = .lst l → ∀ e ∈ l, S [e, e] μ = .ok (.bl true) μ) : runF 3 (B_same S) [d, d] μ = .ok (.bl true) μ := by
  rw [run_is]
  cases d with
  | non => simp [B_same, startD, fIsN, isN, noL]
  | bl b => cases b <;> simp [B_same, startD, fIsN, isN, noL, tyD, isi]
  | int b => simp [B_same, startD, fIsN, isN, noL, tyD, isi]
  | str b => simp [B_same, startD, fIsN, isN, noL, tyD, isi]
  | tup l =>
    simp only [nice, Bool.and_eq_true, decide_eq_true_eq] at hn
    have hl := hn.1
    have z := same_seq hl (hS l (.inl rfl)) (x := .tup l) (.inr rfl) [some (.tup l), some (.tup l), none] rfl rfl rfl
    simp [-xk_rng1, B_same, startD, fIsN, isN, noL, tyD, isi, len_tup, eq_int_self, -eq_int, wipeD, -Int.zero_add, z, rng1_nat hl]
  | lst l =>
    simp only [nice, Bool.and_eq_true, decide_eq_true_eq] at hn
    have hl := hn.1
    have z := same_seq hl (hS l (.inr rfl)) (x := .lst l) (.inl rfl) [some (.lst l), some (.lst l), none] rfl rfl rfl
    simp [-xk_rng1, B_same, startD, fIsN, isN, noL, tyD, isi, len_lst, eq_int_self, -eq_int, wipeD, -Int.zero_add, z, rng1_nat hl]
  | fro l => cases hn
  | ptu l => cases hn
  | dic _ _ => cases hn
  | ptr _ => cases hn
theorem same_ok {S : Nat → FN} (hS : ∀ n, S (n + 1) = runF 3 (B_same (S n))) (n : Nat) : ∀ (d : D) (μ : Mem), nice d = true → dep d ≤ n → S (n + 1) [d, d] μ = .ok (.bl true) μ := by
  induction n with
  | zero =>
    intro d μ hn hd
    rw [hS]
    refine same_step hn fun l e => ?_
    rcases e with rfl | rfl <;> simp [dep] at hd
  | succ n ih =>
    intro d μ hn hd
    rw [hS]
    refine same_step hn fun l e => ?_
    rcases e with rfl | rfl <;> (simp only [nice, Bool.and_eq_true] at hn; exact fun e he => ih e μ (nices_all hn.2 e he) (deps_all (by simp [dep] at hd; exact hd) e he))
end FP
namespace FP
namespace Law
open PySem PySem.Spec L2 PySem.W
open PyProof.Rows hiding St
/-- the text -/
def topS (i : Nat) : Stmt := PySem.Challenge.pw_onetongue_k04_whole_kinds.main.body.getD i (.Pass ⟨0, 0, 0, 0⟩)
inductive Fn where
  | f_is_letter | f_is_kind | f_letters_of | f_kind_text | f__law_next | f__law_same | f__law_kind | f__law_letters | f__law_text | f_law
def params : Fn → List Str
  | .f_is_letter => ["value"]
  | .f_is_kind => ["kinds", "value", "depth"]
  | .f_letters_of => ["kind"]
  | .f_kind_text => ["kind"]
  | .f__law_next => ["tape", "many"]
  | .f__law_same => ["told", "due"]
  | .f__law_kind => ["tape", "rows", "deep"]
  | .f__law_letters => ["kind"]
  | .f__law_text => ["kind"]
  | .f_law => ["script"]
abbrev s_is_letter : Stmt := topS 2
abbrev N_is_letter : List Str := ["value"]
theorem sc_is_letter : FnScope N_is_letter ["value"] (defScope s_is_letter) := ⟨rfl, rfl, rfl, by decide +kernel, rfl, by decide +kernel, by decide +kernel⟩
def B_is_letter (Φ : Fn → FN) : MS :=
    (sRet (mAnd (mIsi (mVar 0) .str) (mAnd (mOp fEq (mCall fLen (aCons (mVar 0) aNil)) (mC (D.int 1))) (mChain fLe fLe (mC (D.str "a")) (mVar 0) (mC (D.str "z"))))))
abbrev s_is_kind : Stmt := topS 3
abbrev N_is_kind : List Str := ["kinds", "value", "depth", "arities", "one"]
theorem sc_is_kind : FnScope N_is_kind ["kinds", "value", "depth"] (defScope s_is_kind) := ⟨rfl, rfl, rfl, by decide +kernel, rfl, by decide +kernel, by decide +kernel⟩
def B_is_kind (Φ : Fn → FN) : MS :=
    (sSeq (sIf (bOr (bNot (mTst (mIsi (mVar 1) .tuple))) (bOr (mTst (mOp fNe (mCall fLen (aCons (mVar 1) aNil)) (mC (D.int 2)))) (bOr (bNot (mTst (mIsi (mOp fIxA (mVar 1) (mC (D.int 0))) .str))) (mTst (mOp fGt (mVar 2) (mC (D.int 5))))))) (sRet (mC (D.bl false))) sNext)
    (sSeq (sIf (mTst (mOp fEq (mOp fIxA (mVar 1) (mC (D.int 0))) (mC (D.str "?")))) (sRetF (mFn (Φ .f_is_letter) 1 [] (aCons (mOp fIxA (mVar 1) (mC (D.int 1))) aNil))) sNext)
    (sSeq (sSet [] 3 (mCall fDict (aCons (mVar 0) aNil)))
    (sSeq (sIf (bOr (mTst (mOp (fInA true) (mOp fIxA (mVar 1) (mC (D.int 0))) (mVar 3))) (bOr (bNot (mTst (mIsi (mOp fIxA (mVar 1) (mC (D.int 1))) .tuple))) (mTst (mOp fNe (mCall fLen (aCons (mOp fIxA (mVar 1) (mC (D.int 1))) aNil)) (mOp fIxA (mVar 3) (mOp fIxA (mVar 1) (mC (D.int 0)))))))) (sRet (mC (D.bl false))) sNext)
    (sRet (mCall fAll (aCons (mLc (iOf (mOp fIxA (mVar 1) (mC (D.int 1)))) (.nm 4) [4] bTrue (mFn (Φ .f_is_kind) 3 [] (aCons (mVar 0) (aCons (mVar 4) (aCons (mOp fAdd (mVar 2) (mC (D.int 1))) aNil))))) aNil)))))))
abbrev s_letters_of : Stmt := topS 4
abbrev N_letters_of : List Str := ["kind", "found", "one", "letter"]
theorem sc_letters_of : FnScope N_letters_of ["kind"] (defScope s_letters_of) := ⟨rfl, rfl, rfl, by decide +kernel, rfl, by decide +kernel, by decide +kernel⟩
def B_letters_of (Φ : Fn → FN) : MS :=
    (sSeq (sIf (mTst (mOp fEq (mOp fIxA (mVar 0) (mC (D.int 0))) (mC (D.str "?")))) (sRet (mTup (aCons (mOp fIxA (mVar 0) (mC (D.int 1))) aNil))) sNext)
    (sSeq (sOwnD 1)
    (sSeq (sFor [1] (.nm 2) (iOfN (mOp fIxA (mVar 0) (mC (D.int 1)))) (sFor [1] (.nm 3) (iOfL (mFn (Φ .f_letters_of) 1 [] (aCons (mVar 2) aNil))) (sDSet [1] 1 (mVar 3) (mC (D.bl true)))))
    (sRet (mCall fTuple' (aCons (mVar 1) aNil))))))
abbrev s_kind_text : Stmt := topS 5
abbrev N_kind_text : List Str := ["kind", "one"]
theorem sc_kind_text : FnScope N_kind_text ["kind"] (defScope s_kind_text) := ⟨rfl, rfl, rfl, by decide +kernel, rfl, by decide +kernel, by decide +kernel⟩
def B_kind_text (Φ : Fn → FN) : MS :=
    (sSeq (sIf (mTst (mOp fEq (mOp fIxA (mVar 0) (mC (D.int 0))) (mC (D.str "?")))) (sRet (mOp fAdd (mC (D.str "?")) (mOp fIxA (mVar 0) (mC (D.int 1))))) sNext)
    (sSeq (sIf (mTst (mOp fEq (mOp fIxA (mVar 0) (mC (D.int 1))) (mTup aNil))) (sRet (mOp fIxA (mVar 0) (mC (D.int 0)))) sNext)
    (sRet (mOp fAdd (mOp fAdd (mC (D.str "(")) (mM1 fJoin (mC (D.str " ")) (mOp fAdd (mLst (aCons (mOp fIxA (mVar 0) (mC (D.int 0))) aNil)) (mLc (iOf (mOp fIxA (mVar 0) (mC (D.int 1)))) (.nm 1) [1] bTrue (mFn (Φ .f_kind_text) 1 [] (aCons (mVar 1) aNil)))))) (mC (D.str ")"))))))
abbrev s__law_next : Stmt := topS 7
abbrev N__law_next : List Str := ["tape", "many", "rest", "cell"]
theorem sc__law_next : FnScope N__law_next ["tape", "many"] (defScope s__law_next) := ⟨rfl, rfl, rfl, by decide +kernel, rfl, by decide +kernel, by decide +kernel⟩
def B__law_next (Φ : Fn → FN) : MS :=
    (sSeq (sSet [] 2 (mOp fIxA (mVar 0) (mC (D.int 2))))
    (sSeq (sIf (mTst (mOp fEq (mVar 2) (mC (D.int 0)))) (sSeq (sSet [] 3 (mC (D.int 0)))
    (sSeq (sIf (mTst (mOp fLt (mOp fIxA (mVar 0) (mC (D.int 1))) (mCall fLen (aCons (mOp fIxA (mVar 0) (mC (D.int 0))) aNil)))) (sSeq (sSet [] 3 (mCall fAbs (aCons (mCall fInt (aCons (mOp fIxA (mOp fIxA (mVar 0) (mC (D.int 0))) (mOp fIxA (mVar 0) (mC (D.int 1)))) aNil)) aNil)))
    (sCellSet 0 (mC (D.int 1)) (mOp fAdd (mOp fIxA (mVar 0) (mC (D.int 1))) (mC (D.int 1))))) sNext)
    (sSeq (sSet [] 2 (mVar 3))
    (sIf (mTst (mOp fLt (mVar 3) (mOp fPow (mC (D.int 10)) (mC (D.int 18))))) (sSeq (sCellSet 0 (mC (D.int 3)) (mOp fMod (mCall fInt (aCons (mOp fAdd (mOp fAdd (mOp fMulA (mOp fIxA (mVar 0) (mC (D.int 3))) (mC (D.int 69621))) (mOp fMulA (mVar 3) (mC (D.int 40692)))) (mC (D.int 17))) aNil)) (mC (D.int 2147483647))))
    (sRet (mOp fMod (mOp fMod (mCall fInt (aCons (mOp fMulA (mCall fInt (aCons (mOp fDiv (mOp fIxA (mVar 0) (mC (D.int 3))) (mC (D.int 5))) aNil)) (mC (D.int 48271))) aNil)) (mC (D.int 2147483647))) (mVar 1)))) sNext)))) sNext)
    (sSeq (sCellSet 0 (mC (D.int 2)) (mOp fDiv (mVar 2) (mVar 1)))
    (sRet (mOp fMod (mCall fInt (aCons (mVar 2) aNil)) (mVar 1))))))
abbrev s__law_same : Stmt := topS 8
abbrev N__law_same : List Str := ["told", "due", "k"]
theorem sc__law_same : FnScope N__law_same ["told", "due"] (defScope s__law_same) := ⟨rfl, rfl, rfl, by decide +kernel, rfl, by decide +kernel, by decide +kernel⟩
def B__law_same (Φ : Fn → FN) : MS :=
    (sSeq (sIf (mTst (mOp fIsN (mVar 1) (mC (D.non)))) (sRet (mOp fIsN (mVar 0) (mC (D.non)))) sNext)
    (sSeq (sIf (mTst (mIsi (mVar 1) .bool)) (sRet (mAnd (mIsi (mVar 0) .bool) (mOp fEq (mVar 0) (mVar 1)))) sNext)
    (sSeq (sIf (mTst (mIsi (mVar 1) .int)) (sRet (mAnd (mIsi (mVar 0) .int) (mAnd (mNot (mIsi (mVar 0) .bool)) (mOp fEq (mVar 0) (mVar 1))))) sNext)
    (sSeq (sIf (mTst (mIsi (mVar 1) .str)) (sRet (mAnd (mIsi (mVar 0) .str) (mOp fEq (mVar 0) (mVar 1)))) sNext)
    (sSeq (sIf (bOr (bAnd (mTst (mIsi (mVar 1) .list)) (bNot (mTst (mIsi (mVar 0) .list)))) (bAnd (mTst (mIsi (mVar 1) .tuple)) (bNot (mTst (mIsi (mVar 0) .tuple))))) (sRet (mC (D.bl false))) sNext)
    (sRet (mAnd (mOp fEq (mCall fLen (aCons (mVar 0) aNil)) (mCall fLen (aCons (mVar 1) aNil))) (mOp fEq (mLc (iRange1 (aCons (mCall fLen (aCons (mVar 1) aNil)) aNil)) (.nm 2) [2] (bNot (mTst (mFn (Φ .f__law_same) 2 [] (aCons (mOp fIxA (mVar 0) (mVar 2)) (aCons (mOp fIxA (mVar 1) (mVar 2)) aNil))))) (mC (D.int 1))) (mLst aNil)))))))))
abbrev s__law_kind : Stmt := topS 9
abbrev N__law_kind : List Str := ["tape", "rows", "deep", "here", "name", "arity", "one", "k"]
theorem sc__law_kind : FnScope N__law_kind ["tape", "rows", "deep"] (defScope s__law_kind) := ⟨rfl, rfl, rfl, by decide +kernel, rfl, by decide +kernel, by decide +kernel⟩
def B__law_kind (Φ : Fn → FN) : MS :=
    (sSeq (sIf (mTst (mOp fEq (mFn (Φ .f__law_next) 2 [] (aCons (mVar 0) (aCons (mC (D.int 3)) aNil))) (mC (D.int 0)))) (sRet (mTup (aCons (mC (D.str "?")) (aCons (mOp fIxA (mC (D.str "abc")) (mFn (Φ .f__law_next) 2 [] (aCons (mVar 0) (aCons (mC (D.int 3)) aNil)))) aNil)))) sNext)
    (sSeq (sSet [] 3 (mIf (mTst (mOp fEq (mVar 2) (mC (D.int 0)))) (mLc (iOf (mVar 1)) (.nm 6) [6] (mTst (mOp fEq (mOp fIxA (mVar 6) (mC (D.int 1))) (mC (D.int 0)))) (mVar 6)) (mCall fList (aCons (mVar 1) aNil))))
    (sSeq (sAsg [] (.tp [4, 5]) (mOp fIxA (mVar 3) (mFn (Φ .f__law_next) 2 [] (aCons (mVar 0) (aCons (mCall fLen (aCons (mVar 3) aNil)) aNil)))))
    (sRet (mTup (aCons (mVar 4) (aCons (mCall fTuple' (aCons (mLc (iRange1 (aCons (mVar 5) aNil)) (.nm 7) [7] bTrue (mFn (Φ .f__law_kind) 3 [] (aCons (mVar 0) (aCons (mVar 1) (aCons (mOp fSub (mVar 2) (mC (D.int 1))) aNil))))) aNil)) aNil)))))))
abbrev s__law_letters : Stmt := topS 10
abbrev N__law_letters : List Str := ["kind", "found", "one", "letter"]
theorem sc__law_letters : FnScope N__law_letters ["kind"] (defScope s__law_letters) := ⟨rfl, rfl, rfl, by decide +kernel, rfl, by decide +kernel, by decide +kernel⟩
def B__law_letters (Φ : Fn → FN) : MS :=
    (sSeq (sIf (mTst (mOp fEq (mOp fIxA (mVar 0) (mC (D.int 0))) (mC (D.str "?")))) (sRetF (mLst (aCons (mOp fIxA (mVar 0) (mC (D.int 1))) aNil))) sNext)
    (sSeq (sOwn 1 (mLst aNil))
    (sSeq (sFor [1] (.nm 2) (iOfN (mOp fIxA (mVar 0) (mC (D.int 1)))) (sOwn 1 (mOp fAddL (mVar 1) (mLc (iOf (mFn (Φ .f__law_letters) 1 [] (aCons (mVar 2) aNil))) (.nm 3) [3] (mTst (mOp (fInA true) (mVar 3) (mVar 1))) (mVar 3)))))
    (sRetOwn [1] 1))))
abbrev s__law_text : Stmt := topS 11
abbrev N__law_text : List Str := ["kind", "one"]
theorem sc__law_text : FnScope N__law_text ["kind"] (defScope s__law_text) := ⟨rfl, rfl, rfl, by decide +kernel, rfl, by decide +kernel, by decide +kernel⟩
def B__law_text (Φ : Fn → FN) : MS :=
    (sSeq (sIf (mTst (mOp fEq (mOp fIxA (mVar 0) (mC (D.int 0))) (mC (D.str "?")))) (sRet (mOp fAdd (mC (D.str "?")) (mOp fIxA (mVar 0) (mC (D.int 1))))) sNext)
    (sRet (mIf (mTst (mOp fEq (mOp fIxA (mVar 0) (mC (D.int 1))) (mTup aNil))) (mOp fIxA (mVar 0) (mC (D.int 0))) (mOp fAdd (mOp fAdd (mOp fAdd (mC (D.str "(")) (mOp fIxA (mVar 0) (mC (D.int 0)))) (mM1 fJoin (mC (D.str "")) (mLc (iOf (mOp fIxA (mVar 0) (mC (D.int 1)))) (.nm 1) [1] bTrue (mOp fAdd (mC (D.str " ")) (mFn (Φ .f__law_text) 1 [] (aCons (mVar 1) aNil)))))) (mC (D.str ")"))))))
abbrev s_law : Stmt := topS 12
abbrev N_law : List Str := ["script", "tape", "rows", "kind", "k", "odd", "deep", "many", "one"]
theorem sc_law : FnScope N_law ["script"] (defScope s_law) := ⟨rfl, rfl, rfl, by decide +kernel, rfl, by decide +kernel, by decide +kernel⟩
def B_law (Φ : Fn → FN) : MS :=
    (sSeq (sCell 1 (aCons (mChk retOk (mCall fList (aCons (mVar 0) aNil))) (aCons (mChk noL (mC (D.int 0))) (aCons (mChk noL (mC (D.int 0))) (aCons (mChk noL (mC (D.int 4))) aNil)))))
    (sSeq (sSet [] 2 (mSlP (mTupP (aCons (mTup (aCons (mC (D.str "num")) (aCons (mC (D.int 0)) aNil))) (aCons (mTup (aCons (mC (D.str "fn")) (aCons (mC (D.int 2)) aNil))) (aCons (mTup (aCons (mC (D.str "list")) (aCons (mC (D.int 1)) aNil))) (aCons (mTup (aCons (mC (D.str "bool")) (aCons (mC (D.int 0)) aNil))) aNil))))) oNone (oSome (mOp fAdd (mC (D.int 2)) (mFn (Φ .f__law_next) 2 [] (aCons (mVar 1) (aCons (mC (D.int 3)) aNil)))))))
    (sSeq (sSet [] 3 (mFn (Φ .f__law_kind) 3 [] (aCons (mVar 1) (aCons (mVar 2) (aCons (mC (D.int 3)) aNil)))))
    (sSeq (sIf (bNot (mTst (mFn (Φ .f__law_same) 2 [] (aCons (mLst (aCons (mFn (Φ .f_is_kind) 3 [D.int 1] (aCons (mVar 2) (aCons (mVar 3) aNil))) (aCons (mFn (Φ .f_letters_of) 1 [] (aCons (mVar 3) aNil)) (aCons (mFn (Φ .f_kind_text) 1 [] (aCons (mVar 3) aNil)) aNil)))) (aCons (mLst (aCons (mC (D.bl true)) (aCons (mCall fTuple' (aCons (mFn (Φ .f__law_letters) 1 [] (aCons (mVar 3) aNil)) aNil)) (aCons (mFn (Φ .f__law_text) 1 [] (aCons (mVar 3) aNil)) aNil)))) aNil))))) (sRet (mC (D.bl false))) sNext)
    (sSeq (sPar [] 6 7 (mTup (aCons (mC (D.str "num")) (aCons (mTup aNil) aNil))) (mFn (Φ .f__law_next) 2 [] (aCons (mVar 1) (aCons (mC (D.int 7)) aNil))))
    (sSeq (sFor [] (.nm 4) (iRange1 (aCons (mVar 7) aNil)) (sSet [] 6 (mTup (aCons (mC (D.str "fn")) (aCons (mTup (aCons (mVar 6) (aCons (mTup (aCons (mC (D.str "?")) (aCons (mC (D.str "a")) aNil))) aNil))) aNil)))))
    (sSeq (sIf (mTst (mOp fNe (mFn (Φ .f_is_kind) 3 [D.int 1] (aCons (mVar 2) (aCons (mVar 6) aNil))) (mOp fLe (mVar 7) (mC (D.int 4))))) (sRet (mC (D.bl false))) sNext)
    (sSeq (sSet [] 5 (mLst (aCons (mC (D.non)) (aCons (mC (D.str "num")) (aCons (mTup (aCons (mC (D.str "num")) aNil)) (aCons (mTup (aCons (mC (D.str "num")) (aCons (mLst aNil) aNil))) (aCons (mTup (aCons (mC (D.str "num")) (aCons (mTup (aCons (mTup (aCons (mC (D.str "num")) (aCons (mTup aNil) aNil))) aNil)) aNil))) (aCons (mTup (aCons (mC (D.str "fn")) (aCons (mTup (aCons (mTup (aCons (mC (D.str "num")) (aCons (mTup aNil) aNil))) aNil)) aNil))) aNil))))))))
    (sSeq (sSet [] 5 (mOp fAdd (mVar 5) (mLst (aCons (mTup (aCons (mC (D.str "?")) (aCons (mC (D.str "ab")) aNil))) (aCons (mTup (aCons (mC (D.str "?")) (aCons (mC (D.str "")) aNil))) (aCons (mTup (aCons (mC (D.str "?")) (aCons (mC (D.str "A")) aNil))) (aCons (mTup (aCons (mC (D.str "?")) (aCons (mC (D.int 1)) aNil))) (aCons (mTup (aCons (mC (D.str "zz")) (aCons (mTup aNil) aNil))) (aCons (mLst (aCons (mC (D.str "num")) (aCons (mTup aNil) aNil))) (aCons (mTup (aCons (mC (D.int 1)) (aCons (mTup aNil) aNil))) (aCons (mTup (aCons (mC (D.str "fn")) (aCons (mTup (aCons (mTup (aCons (mC (D.str "num")) (aCons (mTup aNil) aNil))) (aCons (mC (D.non)) aNil))) aNil))) aNil)))))))))))
    (sRetF (mFn (Φ .f__law_same) 2 [] (aCons (mLst (aCons (mLc (iOf (mVar 5)) (.nm 8) [8] bTrue (mFn (Φ .f_is_kind) 3 [D.int 1] (aCons (mVar 2) (aCons (mVar 8) aNil)))) (aCons (mC (D.int 5)) aNil))) (aCons (mLst (aCons (mOp fMulA (mLst (aCons (mC (D.bl false)) aNil)) (mC (D.int 14))) (aCons (mC (D.int 5)) aNil))) aNil)))))))))))))
def body (Φ : Fn → FN) : Fn → FN
  | .f_is_letter => runF N_is_letter.length (B_is_letter Φ)
  | .f_is_kind => runF N_is_kind.length (B_is_kind Φ)
  | .f_letters_of => runF N_letters_of.length (B_letters_of Φ)
  | .f_kind_text => runF N_kind_text.length (B_kind_text Φ)
  | .f__law_next => runF N__law_next.length (B__law_next Φ)
  | .f__law_same => runF N__law_same.length (B__law_same Φ)
  | .f__law_kind => runF N__law_kind.length (B__law_kind Φ)
  | .f__law_letters => runF N__law_letters.length (B__law_letters Φ)
  | .f__law_text => runF N__law_text.length (B__law_text Φ)
  | .f_law => runF N_law.length (B_law Φ)
def Φ : Nat → Fn → FN
  | 0, _ => fun _ _ => .stuck
  | n + 1, f => body (Φ n) f
/-- what the top has left -/
structure Tab (K : PySem.W.Frag) (mg : Str → Option Value) (ad : Fn → Addr) (fd : Fn → FuncData) : Prop where
  F_is_letter : FunD K "is_letter" "is_letter" (defArgs s_is_letter) (defBody s_is_letter) (defScope s_is_letter) [] [] (ad .f_is_letter) (fd .f_is_letter)
  m_is_letter : mg "is_letter" = some (.ref (ad .f_is_letter))
  b_is_letter : Binds K (fd .f_is_letter) (params .f_is_letter) []
  F_is_kind : FunD K "is_kind" "is_kind" (defArgs s_is_kind) (defBody s_is_kind) (defScope s_is_kind) [V.int 1] [] (ad .f_is_kind) (fd .f_is_kind)
  m_is_kind : mg "is_kind" = some (.ref (ad .f_is_kind))
  b_is_kind : Binds K (fd .f_is_kind) (params .f_is_kind) []
  d1_is_kind : ∃ ds, Vals [V.int 1] ds ∧ Binds K (fd .f_is_kind) (params .f_is_kind) ds
  F_letters_of : FunD K "letters_of" "letters_of" (defArgs s_letters_of) (defBody s_letters_of) (defScope s_letters_of) [] [] (ad .f_letters_of) (fd .f_letters_of)
  m_letters_of : mg "letters_of" = some (.ref (ad .f_letters_of))
  b_letters_of : Binds K (fd .f_letters_of) (params .f_letters_of) []
  F_kind_text : FunD K "kind_text" "kind_text" (defArgs s_kind_text) (defBody s_kind_text) (defScope s_kind_text) [] [] (ad .f_kind_text) (fd .f_kind_text)
  m_kind_text : mg "kind_text" = some (.ref (ad .f_kind_text))
  b_kind_text : Binds K (fd .f_kind_text) (params .f_kind_text) []
  F__law_next : FunD K "_law_next" "_law_next" (defArgs s__law_next) (defBody s__law_next) (defScope s__law_next) [] [] (ad .f__law_next) (fd .f__law_next)
  m__law_next : mg "_law_next" = some (.ref (ad .f__law_next))
  b__law_next : Binds K (fd .f__law_next) (params .f__law_next) []
  F__law_same : FunD K "_law_same" "_law_same" (defArgs s__law_same) (defBody s__law_same) (defScope s__law_same) [] [] (ad .f__law_same) (fd .f__law_same)
  m__law_same : mg "_law_same" = some (.ref (ad .f__law_same))
  b__law_same : Binds K (fd .f__law_same) (params .f__law_same) []
  F__law_kind : FunD K "_law_kind" "_law_kind" (defArgs s__law_kind) (defBody s__law_kind) (defScope s__law_kind) [] [] (ad .f__law_kind) (fd .f__law_kind)
  m__law_kind : mg "_law_kind" = some (.ref (ad .f__law_kind))
  b__law_kind : Binds K (fd .f__law_kind) (params .f__law_kind) []
  F__law_letters : FunD K "_law_letters" "_law_letters" (defArgs s__law_letters) (defBody s__law_letters) (defScope s__law_letters) [] [] (ad .f__law_letters) (fd .f__law_letters)
  m__law_letters : mg "_law_letters" = some (.ref (ad .f__law_letters))
  b__law_letters : Binds K (fd .f__law_letters) (params .f__law_letters) []
  F__law_text : FunD K "_law_text" "_law_text" (defArgs s__law_text) (defBody s__law_text) (defScope s__law_text) [] [] (ad .f__law_text) (fd .f__law_text)
  m__law_text : mg "_law_text" = some (.ref (ad .f__law_text))
  b__law_text : Binds K (fd .f__law_text) (params .f__law_text) []
  F_law : FunD K "law" "law" (defArgs s_law) (defBody s_law) (defScope s_law) [] [] (ad .f_law) (fd .f_law)
  m_law : mg "law" = some (.ref (ad .f_law))
  b_law : Binds K (fd .f_law) (params .f_law) []
  z_abs : mg "abs" = none
  z_all : mg "all" = none
  z_bool : mg "bool" = none
  z_dict : mg "dict" = none
  z_int : mg "int" = none
  z_isinstance : mg "isinstance" = none
  z_len : mg "len" = none
  z_list : mg "list" = none
  z_range : mg "range" = none
  z_str : mg "str" = none
  z_tuple : mg "tuple" = none
  g_MOST_KIND_DEPTH : ∃ t, mg "MOST_KIND_DEPTH" = some (.int 5 t)
theorem ok_is_letter {P : Program} {w : World} {K : PySem.W.Frag} {mg : Str → Option Value} {base : Heap} {ad : Fn → Addr} {fd : Fn → FuncData} {n : Nat} (T : Tab K mg ad fd) (Φ : Fn → FN) (AL : ∀ g : Fn, FnOk P w K mg base (L2.CX P w) n (ad g) (fd g) (params g) (spF K mg (params g).length (Φ g))) :
    FnOk P w K mg base (L2.CX P w) (n + 1) (ad .f_is_letter) (fd .f_is_letter) (params .f_is_letter) (spF K mg (params .f_is_letter).length (runF N_is_letter.length (B_is_letter Φ))) :=
  okD (ω := []) T.F_is_letter sc_is_letter (by decide) fun cdv A outer s H E hr =>
    (sss_one (ss_ret (ee_and (ee_isi .str (ee_var (pv 0)) T.z_isinstance T.z_str) (ee_and (ee_cmp (or_eq hr.units) os_eq (ee_callB call_len cs_len T.z_len (aa_cons (ee_var (pv 0)) aa_nil)) ee_int (nomark _)) (ee_one (ee_chain or_le os_cmp cmp_bl or_le os_cmp ee_str (ee_var (pv 0)) ee_str))))))
theorem ok_is_kind {P : Program} {w : World} {K : PySem.W.Frag} {mg : Str → Option Value} {base : Heap} {ad : Fn → Addr} {fd : Fn → FuncData} {n : Nat} (T : Tab K mg ad fd) (Φ : Fn → FN) (AL : ∀ g : Fn, FnOk P w K mg base (L2.CX P w) n (ad g) (fd g) (params g) (spF K mg (params g).length (Φ g))) :
    FnOk P w K mg base (L2.CX P w) (n + 1) (ad .f_is_kind) (fd .f_is_kind) (params .f_is_kind) (spF K mg (params .f_is_kind).length (runF N_is_kind.length (B_is_kind Φ))) :=
  okD (ω := []) T.F_is_kind sc_is_kind (by decide) fun cdv A outer s H E hr =>
    (sss_cons (ss_if (tt_of (ww_or (tt_not (tt_val (ee_isi .tuple (ee_var (pv 1)) T.z_isinstance T.z_tuple))) (ww_or (tt_cmp (or_ne hr.units) os_ne (ee_callB call_len cs_len T.z_len (aa_cons (ee_var (pv 1)) aa_nil)) ee_int (nomark _)) (ww_or (tt_not (tt_val (ee_isi .str (ee_ixA (units1 hr) (ee_var (pv 1)) ee_int) T.z_isinstance T.z_str))) (ww_or1 (tt_cmp or_gt os_cmp (ee_var (pv 2)) (ee_c (pe_glob (v := .int 5) (by rfl) T.g_MOST_KIND_DEPTH.choose_spec ⟨_, rfl⟩) (fun _ _ _ => rfl)) (nomark _))))))) (sss_one (ss_ret ee_bl)) sss_nil)
    (sss_cons (ss_if (tt_cmp (or_eq hr.units) os_eq (ee_ixA (units1 hr) (ee_var (pv 1)) ee_int) ee_str (nomark _)) (sss_one (ss_retF (ef_call (AL .f_is_letter) hr T.m_is_letter T.F_is_letter.kp T.b_is_letter .nil (takes_of rfl rfl rfl rfl) (aa_cons (ee_ixA (units1 hr) (ee_var (pv 1)) ee_int) aa_nil) (fun _ _ _ => rfl)))) sss_nil)
    (sss_cons (ss_set sc_is_kind.nd rfl (Or.inl rfl) (ee_callTy (call_dictT rfl) cs_dict T.z_dict (aa_cons (ee_var (pv 0)) aa_nil)))
    (sss_cons (ss_if (tt_of (ww_or (tt_notIn (units1 hr) (ee_ixA (units1 hr) (ee_var (pv 1)) ee_int) (ee_var (pv 3))) (ww_or (tt_not (tt_val (ee_isi .tuple (ee_ixA (units1 hr) (ee_var (pv 1)) ee_int) T.z_isinstance T.z_tuple))) (ww_or1 (tt_cmp (or_ne hr.units) os_ne (ee_callB call_len cs_len T.z_len (aa_cons (ee_ixA (units1 hr) (ee_var (pv 1)) ee_int) aa_nil)) (ee_ixA (units1 hr) (ee_var (pv 3)) (ee_ixA (units1 hr) (ee_var (pv 1)) ee_int)) (nomark _)))))) (sss_one (ss_ret ee_bl)) sss_nil)
    (sss_one (ss_ret (ee_callB (cr_all rfl) cs_all T.z_all (aa_cons (ee_lc rfl sc_is_kind.nd (.nm 4) (own := [("one", 4)]) (by decide) (ii_of (ee_ixA (units1 hr) (ee_var (pv 1)) ee_int)) (blkOk_by (own := [("one", 4)]) (N := N_is_kind) (sc := defScope s_is_kind) (by decide +kernel)) (fun _ _ _ _ _ => (pg_name (i := 4) sc_is_kind.nd rfl (Or.inl rfl))) (fun _ _ _ _ _ => pts_yes) (fun _ _ _ _ _ => (ef_ee (ef_call (AL .f_is_kind) hr T.m_is_kind T.F_is_kind.kp T.b_is_kind .nil takes0 (aa_cons (ee_var (pv 0)) (aa_cons (ee_var (pv 4)) (aa_cons (ee_add (ee_var (pv 2)) ee_int) aa_nil))) (fun _ _ _ => rfl))))) aa_nil))))))))
theorem ok_letters_of {P : Program} {w : World} {K : PySem.W.Frag} {mg : Str → Option Value} {base : Heap} {ad : Fn → Addr} {fd : Fn → FuncData} {n : Nat} (T : Tab K mg ad fd) (Φ : Fn → FN) (AL : ∀ g : Fn, FnOk P w K mg base (L2.CX P w) n (ad g) (fd g) (params g) (spF K mg (params g).length (Φ g))) :
    FnOk P w K mg base (L2.CX P w) (n + 1) (ad .f_letters_of) (fd .f_letters_of) (params .f_letters_of) (spF K mg (params .f_letters_of).length (runF N_letters_of.length (B_letters_of Φ))) :=
  okD (ω := [1]) T.F_letters_of sc_letters_of (by decide) fun cdv A outer s H E hr =>
    (sss_cons (ss_if (tt_cmp (or_eq hr.units) os_eq (ee_ixA (units1 hr) (ee_var (pv 0)) ee_int) ee_str (nomark _)) (sss_one (ss_ret (ee_tup (aa_cons (ee_ixA (units1 hr) (ee_var (pv 0)) ee_int) aa_nil)))) sss_nil)
    (sss_cons (ss_ownD sc_letters_of.nd rfl (Or.inl rfl))
    (sss_cons (ss_for (.nm 2) (is_ofN (in_of (ee_ixA (units1 hr) (ee_var (pv 0)) ee_int))) (pg_name (i := 2) sc_letters_of.nd rfl (Or.inl rfl)) (sss_one (ss_for (.nm 3) (is_ofF (ef_call (AL .f_letters_of) hr T.m_letters_of T.F_letters_of.kp T.b_letters_of .nil (takes_of rfl rfl rfl rfl) (aa_cons (ee_var (pv 2)) aa_nil) (fun _ _ _ => rfl))) (pg_name (i := 3) sc_letters_of.nd rfl (Or.inl rfl)) (sss_one (ss_dset (units1 hr) (pv 1) (ee_var (pv 3)) ee_bl)) (passes_of rfl) rfl)) (passes_of rfl) rfl)
    (sss_one (ss_ret (ee_callTy (or_tuple rfl) cs_tuple' T.z_tuple (aa_cons (ee_var (pv 1)) aa_nil)))))))
theorem ok_kind_text {P : Program} {w : World} {K : PySem.W.Frag} {mg : Str → Option Value} {base : Heap} {ad : Fn → Addr} {fd : Fn → FuncData} {n : Nat} (T : Tab K mg ad fd) (Φ : Fn → FN) (AL : ∀ g : Fn, FnOk P w K mg base (L2.CX P w) n (ad g) (fd g) (params g) (spF K mg (params g).length (Φ g))) :
    FnOk P w K mg base (L2.CX P w) (n + 1) (ad .f_kind_text) (fd .f_kind_text) (params .f_kind_text) (spF K mg (params .f_kind_text).length (runF N_kind_text.length (B_kind_text Φ))) :=
  okD (ω := []) T.F_kind_text sc_kind_text (by decide) fun cdv A outer s H E hr =>
    (sss_cons (ss_if (tt_cmp (or_eq hr.units) os_eq (ee_ixA (units1 hr) (ee_var (pv 0)) ee_int) ee_str (nomark _)) (sss_one (ss_ret (ee_add ee_str (ee_ixA (units1 hr) (ee_var (pv 0)) ee_int)))) sss_nil)
    (sss_cons (ss_if (tt_cmp (or_eq hr.units) os_eq (ee_ixA (units1 hr) (ee_var (pv 0)) ee_int) (ee_tup aa_nil) (nomark _)) (sss_one (ss_ret (ee_ixA (units1 hr) (ee_var (pv 0)) ee_int))) sss_nil)
    (sss_one (ss_ret (ee_add (ee_add ee_str (ee_join ee_str (ee_add (ee_lst (aa_cons (ee_ixA (units1 hr) (ee_var (pv 0)) ee_int) aa_nil)) (ee_lc rfl sc_kind_text.nd (.nm 1) (own := [("one", 1)]) (by decide) (ii_of (ee_ixA (units1 hr) (ee_var (pv 0)) ee_int)) (blkOk_by (own := [("one", 1)]) (N := N_kind_text) (sc := defScope s_kind_text) (by decide +kernel)) (fun _ _ _ _ _ => (pg_name (i := 1) sc_kind_text.nd rfl (Or.inl rfl))) (fun _ _ _ _ _ => pts_yes) (fun _ _ _ _ _ => (ef_ee (ef_call (AL .f_kind_text) hr T.m_kind_text T.F_kind_text.kp T.b_kind_text .nil takes0 (aa_cons (ee_var (pv 1)) aa_nil) (fun _ _ _ => rfl)))))))) ee_str)))))
theorem ok__law_next {P : Program} {w : World} {K : PySem.W.Frag} {mg : Str → Option Value} {base : Heap} {ad : Fn → Addr} {fd : Fn → FuncData} {n : Nat} (T : Tab K mg ad fd) (Φ : Fn → FN) (AL : ∀ g : Fn, FnOk P w K mg base (L2.CX P w) n (ad g) (fd g) (params g) (spF K mg (params g).length (Φ g))) :
    FnOk P w K mg base (L2.CX P w) (n + 1) (ad .f__law_next) (fd .f__law_next) (params .f__law_next) (spF K mg (params .f__law_next).length (runF N__law_next.length (B__law_next Φ))) :=
  okD (ω := []) T.F__law_next sc__law_next (by decide) fun cdv A outer s H E hr =>
    (sss_cons (ss_set sc__law_next.nd rfl (Or.inl rfl) (ee_ixA (units1 hr) (ee_var (pv 0)) ee_int))
    (sss_cons (ss_if (tt_cmp (or_eq hr.units) os_eq (ee_var (pv 2)) ee_int (nomark _)) (sss_cons (ss_set sc__law_next.nd rfl (Or.inl rfl) ee_int)
    (sss_cons (ss_if (tt_cmp or_lt os_cmp (ee_ixA (units1 hr) (ee_var (pv 0)) ee_int) (ee_callB call_len cs_len T.z_len (aa_cons (ee_ixA (units1 hr) (ee_var (pv 0)) ee_int) aa_nil)) (nomark _)) (sss_cons (ss_set sc__law_next.nd rfl (Or.inl rfl) (ee_callB call_abs cs_abs T.z_abs (aa_cons (ee_callTy call_int1 cs_int T.z_int (aa_cons (ee_ixA (units1 hr) (ee_ixA (units1 hr) (ee_var (pv 0)) ee_int) (ee_ixA (units1 hr) (ee_var (pv 0)) ee_int)) aa_nil)) aa_nil)))
    (sss_one (ss_cellSet (pv 0) ee_int (ee_add (ee_ixA (units1 hr) (ee_var (pv 0)) ee_int) ee_int)))) sss_nil)
    (sss_cons (ss_set sc__law_next.nd rfl (Or.inl rfl) (ee_var (pv 3)))
    (sss_one (ss_if (tt_cmp or_lt os_cmp (ee_var (pv 3)) (ee_pow ee_int ee_int) (nomark _)) (sss_cons (ss_cellSet (pv 0) ee_int (ee_mod (ee_callTy call_int1 cs_int T.z_int (aa_cons (ee_add (ee_add (ee_mulA (ee_ixA (units1 hr) (ee_var (pv 0)) ee_int) ee_int) (ee_mulA (ee_var (pv 3)) ee_int)) ee_int) aa_nil)) ee_int))
    (sss_one (ss_ret (ee_mod (ee_mod (ee_callTy call_int1 cs_int T.z_int (aa_cons (ee_mulA (ee_callTy call_int1 cs_int T.z_int (aa_cons (ee_div (ee_ixA (units1 hr) (ee_var (pv 0)) ee_int) ee_int) aa_nil)) ee_int) aa_nil)) ee_int) (ee_var (pv 1)))))) sss_nil))))) sss_nil)
    (sss_cons (ss_cellSet (pv 0) ee_int (ee_div (ee_var (pv 2)) (ee_var (pv 1))))
    (sss_one (ss_ret (ee_mod (ee_callTy call_int1 cs_int T.z_int (aa_cons (ee_var (pv 2)) aa_nil)) (ee_var (pv 1))))))))
theorem ok__law_same {P : Program} {w : World} {K : PySem.W.Frag} {mg : Str → Option Value} {base : Heap} {ad : Fn → Addr} {fd : Fn → FuncData} {n : Nat} (T : Tab K mg ad fd) (Φ : Fn → FN) (AL : ∀ g : Fn, FnOk P w K mg base (L2.CX P w) n (ad g) (fd g) (params g) (spF K mg (params g).length (Φ g))) :
    FnOk P w K mg base (L2.CX P w) (n + 1) (ad .f__law_same) (fd .f__law_same) (params .f__law_same) (spF K mg (params .f__law_same).length (runF N__law_same.length (B__law_same Φ))) :=
  okD (ω := []) T.F__law_same sc__law_same (by decide) fun cdv A outer s H E hr =>
    (sss_cons (ss_if (tt_cmp op_isN os_isN (ee_var (pv 1)) ee_non (nomark _)) (sss_one (ss_ret (ee_cmp op_isN os_isN (ee_var (pv 0)) ee_non (nomark _)))) sss_nil)
    (sss_cons (ss_if (tt_val (ee_isi .bool (ee_var (pv 1)) T.z_isinstance T.z_bool)) (sss_one (ss_ret (ee_and (ee_isi .bool (ee_var (pv 0)) T.z_isinstance T.z_bool) (ee_one (ee_cmp (or_eq hr.units) os_eq (ee_var (pv 0)) (ee_var (pv 1)) (nomark _)))))) sss_nil)
    (sss_cons (ss_if (tt_val (ee_isi .int (ee_var (pv 1)) T.z_isinstance T.z_int)) (sss_one (ss_ret (ee_and (ee_isi .int (ee_var (pv 0)) T.z_isinstance T.z_int) (ee_and (ee_not (ee_isi .bool (ee_var (pv 0)) T.z_isinstance T.z_bool)) (ee_one (ee_cmp (or_eq hr.units) os_eq (ee_var (pv 0)) (ee_var (pv 1)) (nomark _))))))) sss_nil)
    (sss_cons (ss_if (tt_val (ee_isi .str (ee_var (pv 1)) T.z_isinstance T.z_str)) (sss_one (ss_ret (ee_and (ee_isi .str (ee_var (pv 0)) T.z_isinstance T.z_str) (ee_one (ee_cmp (or_eq hr.units) os_eq (ee_var (pv 0)) (ee_var (pv 1)) (nomark _)))))) sss_nil)
    (sss_cons (ss_if (tt_of (ww_or (tt_of (ww_and (tt_val (ee_isi .list (ee_var (pv 1)) T.z_isinstance T.z_list)) (ww_and1 (tt_not (tt_val (ee_isi .list (ee_var (pv 0)) T.z_isinstance T.z_list)))))) (ww_or1 (tt_of (ww_and (tt_val (ee_isi .tuple (ee_var (pv 1)) T.z_isinstance T.z_tuple)) (ww_and1 (tt_not (tt_val (ee_isi .tuple (ee_var (pv 0)) T.z_isinstance T.z_tuple))))))))) (sss_one (ss_ret ee_bl)) sss_nil)
    (sss_one (ss_ret (ee_and (ee_cmp (or_eq hr.units) os_eq (ee_callB call_len cs_len T.z_len (aa_cons (ee_var (pv 0)) aa_nil)) (ee_callB call_len cs_len T.z_len (aa_cons (ee_var (pv 1)) aa_nil)) (nomark _)) (ee_one (ee_cmp (or_eq hr.units) os_eq (ee_lc rfl sc__law_same.nd (.nm 2) (own := [("k", 2)]) (by decide) (in_ii (in_range1 T.z_range (aa_cons (ee_callB call_len cs_len T.z_len (aa_cons (ee_var (pv 1)) aa_nil)) aa_nil))) (blkOk_by (own := [("k", 2)]) (N := N__law_same) (sc := defScope s__law_same) (by decide +kernel)) (fun _ _ _ _ _ => (pg_name (i := 2) sc__law_same.nd rfl (Or.inl rfl))) (fun _ _ _ _ _ => (pts_one (tt_not (tt_val (ef_ee (ef_call (AL .f__law_same) hr T.m__law_same T.F__law_same.kp T.b__law_same .nil takes0 (aa_cons (ee_ixA (units1 hr) (ee_var (pv 0)) (ee_var (pv 2))) (aa_cons (ee_ixA (units1 hr) (ee_var (pv 1)) (ee_var (pv 2))) aa_nil)) (fun _ _ _ => rfl))))))) (fun _ _ _ _ _ => ee_int)) (ee_lst aa_nil) (nomark _)))))))))))
theorem ok__law_kind {P : Program} {w : World} {K : PySem.W.Frag} {mg : Str → Option Value} {base : Heap} {ad : Fn → Addr} {fd : Fn → FuncData} {n : Nat} (T : Tab K mg ad fd) (Φ : Fn → FN) (AL : ∀ g : Fn, FnOk P w K mg base (L2.CX P w) n (ad g) (fd g) (params g) (spF K mg (params g).length (Φ g))) :
    FnOk P w K mg base (L2.CX P w) (n + 1) (ad .f__law_kind) (fd .f__law_kind) (params .f__law_kind) (spF K mg (params .f__law_kind).length (runF N__law_kind.length (B__law_kind Φ))) :=
  okD (ω := []) T.F__law_kind sc__law_kind (by decide) fun cdv A outer s H E hr =>
    (sss_cons (ss_if (tt_cmp (or_eq hr.units) os_eq (ef_ee (ef_call (AL .f__law_next) hr T.m__law_next T.F__law_next.kp T.b__law_next .nil (takes_of rfl rfl rfl rfl) (aa_cons (ee_var (pv 0)) (aa_cons ee_int aa_nil)) (fun _ _ _ => rfl))) ee_int (nomark _)) (sss_one (ss_ret (ee_tup (aa_cons ee_str (aa_cons (ee_ixA (units1 hr) ee_str (ef_ee (ef_call (AL .f__law_next) hr T.m__law_next T.F__law_next.kp T.b__law_next .nil (takes_of rfl rfl rfl rfl) (aa_cons (ee_var (pv 0)) (aa_cons ee_int aa_nil)) (fun _ _ _ => rfl)))) aa_nil))))) sss_nil)
    (sss_cons (ss_set sc__law_kind.nd rfl (Or.inl rfl) (ee_if (tt_cmp (or_eq hr.units) os_eq (ee_var (pv 2)) ee_int (nomark _)) (ee_lc rfl sc__law_kind.nd (.nm 6) (own := [("one", 6)]) (by decide) (ii_of (ee_var (pv 1))) (blkOk_by (own := [("one", 6)]) (N := N__law_kind) (sc := defScope s__law_kind) (by decide +kernel)) (fun _ _ _ _ _ => (pg_name (i := 6) sc__law_kind.nd rfl (Or.inl rfl))) (fun _ _ _ _ _ => (pts_one (tt_cmp (or_eq hr.units) os_eq (ee_ixA (units1 hr) (ee_var (pv 6)) ee_int) ee_int (nomark _)))) (fun _ _ _ _ _ => (ee_var (pv 6)))) (ef_ee (ef_list T.z_list (ee_var (pv 1))))))
    (sss_cons (ss_asg (t := (.tp [4, 5])) (ee_ixA (units1 hr) (ee_var (pv 3)) (ef_ee (ef_call (AL .f__law_next) hr T.m__law_next T.F__law_next.kp T.b__law_next .nil (takes_of rfl rfl rfl rfl) (aa_cons (ee_var (pv 0)) (aa_cons (ee_callB call_len cs_len T.z_len (aa_cons (ee_var (pv 3)) aa_nil)) aa_nil)) (fun _ _ _ => rfl)))) (pg_tup rfl (pgs_cons (pg_name (i := 4) sc__law_kind.nd rfl (Or.inl rfl)) (pgs_cons (pg_name (i := 5) sc__law_kind.nd rfl (Or.inl rfl)) pgs_nil))))
    (sss_one (ss_ret (ee_tup (aa_cons (ee_var (pv 4)) (aa_cons (ee_callTy (or_tuple rfl) cs_tuple' T.z_tuple (aa_cons (ee_lc rfl sc__law_kind.nd (.nm 7) (own := [("k", 7)]) (by decide) (in_ii (in_range1 T.z_range (aa_cons (ee_var (pv 5)) aa_nil))) (blkOk_by (own := [("k", 7)]) (N := N__law_kind) (sc := defScope s__law_kind) (by decide +kernel)) (fun _ _ _ _ _ => (pg_name (i := 7) sc__law_kind.nd rfl (Or.inl rfl))) (fun _ _ _ _ _ => pts_yes) (fun _ _ _ _ _ => (ef_ee (ef_call (AL .f__law_kind) hr T.m__law_kind T.F__law_kind.kp T.b__law_kind .nil takes0 (aa_cons (ee_var (pv 0)) (aa_cons (ee_var (pv 1)) (aa_cons (ee_sub (ee_var (pv 2)) ee_int) aa_nil))) (fun _ _ _ => rfl))))) aa_nil)) aa_nil))))))))
theorem ok__law_letters {P : Program} {w : World} {K : PySem.W.Frag} {mg : Str → Option Value} {base : Heap} {ad : Fn → Addr} {fd : Fn → FuncData} {n : Nat} (T : Tab K mg ad fd) (Φ : Fn → FN) (AL : ∀ g : Fn, FnOk P w K mg base (L2.CX P w) n (ad g) (fd g) (params g) (spF K mg (params g).length (Φ g))) :
    FnOk P w K mg base (L2.CX P w) (n + 1) (ad .f__law_letters) (fd .f__law_letters) (params .f__law_letters) (spF K mg (params .f__law_letters).length (runF N__law_letters.length (B__law_letters Φ))) :=
  okD (ω := [1]) T.F__law_letters sc__law_letters (by decide) fun cdv A outer s H E hr =>
    (sss_cons (ss_if (tt_cmp (or_eq hr.units) os_eq (ee_ixA (units1 hr) (ee_var (pv 0)) ee_int) ee_str (nomark _)) (sss_one (ss_retF (ef_lst (aa_cons (ee_ixA (units1 hr) (ee_var (pv 0)) ee_int) aa_nil)))) sss_nil)
    (sss_cons (ss_own sc__law_letters.nd rfl (Or.inr rfl) (ef_lst aa_nil))
    (sss_cons (ss_for (.nm 2) (is_ofN (in_of (ee_ixA (units1 hr) (ee_var (pv 0)) ee_int))) (pg_name (i := 2) sc__law_letters.nd rfl (Or.inl rfl)) (sss_one (ss_own sc__law_letters.nd rfl (Or.inr rfl) (ef_add (ee_var (pv 1)) (ee_lc rfl sc__law_letters.nd (.nm 3) (own := [("letter", 3)]) (by decide) (ii_of (ef_ee (ef_call (AL .f__law_letters) hr T.m__law_letters T.F__law_letters.kp T.b__law_letters .nil (takes_of rfl rfl rfl rfl) (aa_cons (ee_var (pv 2)) aa_nil) (fun _ _ _ => rfl)))) (blkOk_by (own := [("letter", 3)]) (N := N__law_letters) (sc := defScope s__law_letters) (by decide +kernel)) (fun _ _ _ _ _ => (pg_name (i := 3) sc__law_letters.nd rfl (Or.inl rfl))) (fun _ _ _ _ _ => (pts_one (tt_notIn (units1 hr) (ee_var (pv 3)) (ee_var (pv 1))))) (fun _ _ _ _ _ => (ee_var (pv 3))))))) (passes_of rfl) rfl)
    (sss_one (ss_retOwn (pv 1))))))
theorem ok__law_text {P : Program} {w : World} {K : PySem.W.Frag} {mg : Str → Option Value} {base : Heap} {ad : Fn → Addr} {fd : Fn → FuncData} {n : Nat} (T : Tab K mg ad fd) (Φ : Fn → FN) (AL : ∀ g : Fn, FnOk P w K mg base (L2.CX P w) n (ad g) (fd g) (params g) (spF K mg (params g).length (Φ g))) :
    FnOk P w K mg base (L2.CX P w) (n + 1) (ad .f__law_text) (fd .f__law_text) (params .f__law_text) (spF K mg (params .f__law_text).length (runF N__law_text.length (B__law_text Φ))) :=
  okD (ω := []) T.F__law_text sc__law_text (by decide) fun cdv A outer s H E hr =>
    (sss_cons (ss_if (tt_cmp (or_eq hr.units) os_eq (ee_ixA (units1 hr) (ee_var (pv 0)) ee_int) ee_str (nomark _)) (sss_one (ss_ret (ee_add ee_str (ee_ixA (units1 hr) (ee_var (pv 0)) ee_int)))) sss_nil)
    (sss_one (ss_ret (ee_if (tt_cmp (or_eq hr.units) os_eq (ee_ixA (units1 hr) (ee_var (pv 0)) ee_int) (ee_tup aa_nil) (nomark _)) (ee_ixA (units1 hr) (ee_var (pv 0)) ee_int) (ee_add (ee_add (ee_add ee_str (ee_ixA (units1 hr) (ee_var (pv 0)) ee_int)) (ee_join ee_str (ee_lc rfl sc__law_text.nd (.nm 1) (own := [("one", 1)]) (by decide) (ii_of (ee_ixA (units1 hr) (ee_var (pv 0)) ee_int)) (blkOk_by (own := [("one", 1)]) (N := N__law_text) (sc := defScope s__law_text) (by decide +kernel)) (fun _ _ _ _ _ => (pg_name (i := 1) sc__law_text.nd rfl (Or.inl rfl))) (fun _ _ _ _ _ => pts_yes) (fun _ _ _ _ _ => (ee_add ee_str (ef_ee (ef_call (AL .f__law_text) hr T.m__law_text T.F__law_text.kp T.b__law_text .nil takes0 (aa_cons (ee_var (pv 1)) aa_nil) (fun _ _ _ => rfl)))))))) ee_str)))))
theorem ok_law {P : Program} {w : World} {K : PySem.W.Frag} {mg : Str → Option Value} {base : Heap} {ad : Fn → Addr} {fd : Fn → FuncData} {n : Nat} (T : Tab K mg ad fd) (Φ : Fn → FN) (AL : ∀ g : Fn, FnOk P w K mg base (L2.CX P w) n (ad g) (fd g) (params g) (spF K mg (params g).length (Φ g))) :
    FnOk P w K mg base (L2.CX P w) (n + 1) (ad .f_law) (fd .f_law) (params .f_law) (spF K mg (params .f_law).length (runF N_law.length (B_law Φ))) :=
  okD (ω := []) T.F_law sc_law (by decide) fun cdv A outer s H E hr =>
    (sss_cons (ss_cell sc_law.nd rfl (Or.inl rfl) (as_cons (es_ofF (ef_list T.z_list (ee_var (pv 0)))) (as_cons (es_of ee_int) (as_cons (es_of ee_int) (as_cons (es_of ee_int) as_nil)))))
    (sss_cons (ss_set sc_law.nd rfl (Or.inr rfl) (ee_slP (ee_tupP (aa_cons (ee_tup (aa_cons ee_str (aa_cons ee_int aa_nil))) (aa_cons (ee_tup (aa_cons ee_str (aa_cons ee_int aa_nil))) (aa_cons (ee_tup (aa_cons ee_str (aa_cons ee_int aa_nil))) (aa_cons (ee_tup (aa_cons ee_str (aa_cons ee_int aa_nil))) aa_nil))))) oo_none (oo_some (ee_add ee_int (ef_ee (ef_call (AL .f__law_next) hr T.m__law_next T.F__law_next.kp T.b__law_next .nil (takes_of rfl rfl rfl rfl) (aa_cons (ee_var (pv 1)) (aa_cons ee_int aa_nil)) (fun _ _ _ => rfl)))))))
    (sss_cons (ss_set sc_law.nd rfl (Or.inl rfl) (ef_ee (ef_call (AL .f__law_kind) hr T.m__law_kind T.F__law_kind.kp T.b__law_kind .nil (takes_of rfl rfl rfl rfl) (aa_cons (ee_var (pv 1)) (aa_cons (ee_var (pv 2)) (aa_cons ee_int aa_nil))) (fun _ _ _ => rfl))))
    (sss_cons (ss_if (tt_not (tt_val (ef_ee (ef_call (AL .f__law_same) hr T.m__law_same T.F__law_same.kp T.b__law_same .nil (takes_of rfl rfl rfl rfl) (aa_cons (ee_lst (aa_cons (ef_ee (ef_call (AL .f_is_kind) hr T.m_is_kind T.F_is_kind.kp (T.d1_is_kind).choose_spec.2 (T.d1_is_kind).choose_spec.1 (takes_of rfl rfl rfl rfl) (aa_cons (ee_var (pv 2)) (aa_cons (ee_var (pv 3)) aa_nil)) (fun _ _ _ => RpL.cons rfl RpL.nil))) (aa_cons (ef_ee (ef_call (AL .f_letters_of) hr T.m_letters_of T.F_letters_of.kp T.b_letters_of .nil (takes_of rfl rfl rfl rfl) (aa_cons (ee_var (pv 3)) aa_nil) (fun _ _ _ => rfl))) (aa_cons (ef_ee (ef_call (AL .f_kind_text) hr T.m_kind_text T.F_kind_text.kp T.b_kind_text .nil (takes_of rfl rfl rfl rfl) (aa_cons (ee_var (pv 3)) aa_nil) (fun _ _ _ => rfl))) aa_nil)))) (aa_cons (ee_lst (aa_cons ee_bl (aa_cons (ee_callTy (or_tuple rfl) cs_tuple' T.z_tuple (aa_cons (ef_ee (ef_call (AL .f__law_letters) hr T.m__law_letters T.F__law_letters.kp T.b__law_letters .nil (takes_of rfl rfl rfl rfl) (aa_cons (ee_var (pv 3)) aa_nil) (fun _ _ _ => rfl))) aa_nil)) (aa_cons (ef_ee (ef_call (AL .f__law_text) hr T.m__law_text T.F__law_text.kp T.b__law_text .nil (takes_of rfl rfl rfl rfl) (aa_cons (ee_var (pv 3)) aa_nil) (fun _ _ _ => rfl))) aa_nil)))) aa_nil)) (fun _ _ _ => rfl))))) (sss_one (ss_ret ee_bl)) sss_nil)
    (sss_cons (ss_par (i := 6) (j := 7) rfl sc_law.nd rfl rfl (by decide) rfl rfl (ee_tup (aa_cons ee_str (aa_cons (ee_tup aa_nil) aa_nil))) (ef_ee (ef_call (AL .f__law_next) hr T.m__law_next T.F__law_next.kp T.b__law_next .nil (takes_of rfl rfl rfl rfl) (aa_cons (ee_var (pv 1)) (aa_cons ee_int aa_nil)) (fun _ _ _ => rfl))))
    (sss_cons (ss_for (.nm 4) (is_of (in_ii (in_range1 T.z_range (aa_cons (ee_var (pv 7)) aa_nil)))) (pg_name (i := 4) sc_law.nd rfl (Or.inl rfl)) (sss_one (ss_set sc_law.nd rfl (Or.inl rfl) (ee_tup (aa_cons ee_str (aa_cons (ee_tup (aa_cons (ee_var (pv 6)) (aa_cons (ee_tup (aa_cons ee_str (aa_cons ee_str aa_nil))) aa_nil))) aa_nil))))) (passes_of rfl) rfl)
    (sss_cons (ss_if (tt_cmp (or_ne hr.units) os_ne (ef_ee (ef_call (AL .f_is_kind) hr T.m_is_kind T.F_is_kind.kp (T.d1_is_kind).choose_spec.2 (T.d1_is_kind).choose_spec.1 (takes_of rfl rfl rfl rfl) (aa_cons (ee_var (pv 2)) (aa_cons (ee_var (pv 6)) aa_nil)) (fun _ _ _ => RpL.cons rfl RpL.nil))) (ee_cmp or_le os_cmp (ee_var (pv 7)) ee_int (nomark _)) (nomark _)) (sss_one (ss_ret ee_bl)) sss_nil)
    (sss_cons (ss_set sc_law.nd rfl (Or.inl rfl) (ee_lst (aa_cons ee_non (aa_cons ee_str (aa_cons (ee_tup (aa_cons ee_str aa_nil)) (aa_cons (ee_tup (aa_cons ee_str (aa_cons (ee_lst aa_nil) aa_nil))) (aa_cons (ee_tup (aa_cons ee_str (aa_cons (ee_tup (aa_cons (ee_tup (aa_cons ee_str (aa_cons (ee_tup aa_nil) aa_nil))) aa_nil)) aa_nil))) (aa_cons (ee_tup (aa_cons ee_str (aa_cons (ee_tup (aa_cons (ee_tup (aa_cons ee_str (aa_cons (ee_tup aa_nil) aa_nil))) aa_nil)) aa_nil))) aa_nil))))))))
    (sss_cons (ss_set sc_law.nd rfl (Or.inl rfl) (ee_add (ee_var (pv 5)) (ee_lst (aa_cons (ee_tup (aa_cons ee_str (aa_cons ee_str aa_nil))) (aa_cons (ee_tup (aa_cons ee_str (aa_cons ee_str aa_nil))) (aa_cons (ee_tup (aa_cons ee_str (aa_cons ee_str aa_nil))) (aa_cons (ee_tup (aa_cons ee_str (aa_cons ee_int aa_nil))) (aa_cons (ee_tup (aa_cons ee_str (aa_cons (ee_tup aa_nil) aa_nil))) (aa_cons (ee_lst (aa_cons ee_str (aa_cons (ee_tup aa_nil) aa_nil))) (aa_cons (ee_tup (aa_cons ee_int (aa_cons (ee_tup aa_nil) aa_nil))) (aa_cons (ee_tup (aa_cons ee_str (aa_cons (ee_tup (aa_cons (ee_tup (aa_cons ee_str (aa_cons (ee_tup aa_nil) aa_nil))) (aa_cons ee_non aa_nil))) aa_nil))) aa_nil)))))))))))
    (sss_one (ss_retF (ef_call (AL .f__law_same) hr T.m__law_same T.F__law_same.kp T.b__law_same .nil (takes_of rfl rfl rfl rfl) (aa_cons (ee_lst (aa_cons (ee_lc rfl sc_law.nd (.nm 8) (own := [("one", 8)]) (by decide) (ii_of (ee_var (pv 5))) (blkOk_by (own := [("one", 8)]) (N := N_law) (sc := defScope s_law) (by decide +kernel)) (fun _ _ _ _ _ => (pg_name (i := 8) sc_law.nd rfl (Or.inl rfl))) (fun _ _ _ _ _ => pts_yes) (fun _ _ _ _ _ => (ef_ee (ef_call (AL .f_is_kind) hr T.m_is_kind T.F_is_kind.kp (T.d1_is_kind).choose_spec.2 (T.d1_is_kind).choose_spec.1 takes0 (aa_cons (ee_var (pv 2)) (aa_cons (ee_var (pv 8)) aa_nil)) (fun _ _ _ => RpL.cons rfl RpL.nil))))) (aa_cons (ee_c (pe_glob (v := .int 5) (by rfl) T.g_MOST_KIND_DEPTH.choose_spec ⟨_, rfl⟩) (fun _ _ _ => rfl)) aa_nil))) (aa_cons (ee_lst (aa_cons (ee_mulA (ee_lst (aa_cons ee_bl aa_nil)) ee_int) (aa_cons ee_int aa_nil))) aa_nil)) (fun _ _ _ => rfl)))))))))))))
theorem all_ok {P : Program} {w : World} {K : PySem.W.Frag} {mg : Str → Option Value} {base : Heap} {ad : Fn → Addr} {fd : Fn → FuncData} (T : Tab K mg ad fd) : ∀ (n : Nat) (g : Fn), FnOk P w K mg base (L2.CX P w) n (ad g) (fd g) (params g) (spF K mg (params g).length (Φ n g))
  | 0, g => ok0 _ (fun _ _ => rfl) rfl
  | n + 1, g => by
    have AL := all_ok (P := P) (w := w) (base := base) T n
    cases g
    case f_is_letter => exact ok_is_letter T (Φ n) AL
    case f_is_kind => exact ok_is_kind T (Φ n) AL
    case f_letters_of => exact ok_letters_of T (Φ n) AL
    case f_kind_text => exact ok_kind_text T (Φ n) AL
    case f__law_next => exact ok__law_next T (Φ n) AL
    case f__law_same => exact ok__law_same T (Φ n) AL
    case f__law_kind => exact ok__law_kind T (Φ n) AL
    case f__law_letters => exact ok__law_letters T (Φ n) AL
    case f__law_text => exact ok__law_text T (Φ n) AL
    case f_law => exact ok_law T (Φ n) AL
theorem tab_mk {K : PySem.W.Frag} {h : Heap} {mg : Str → Option Value} {fa f1 f2 f3 f4 f5 f6 f7 f8 f9 f10 : Addr} {od1 an1 od2 an2 od3 an3 od4 an4 od5 an5 od6 an6 od7 an7 od8 an8 od9 an9 od10 an10 : Option Addr} {sl1 sl2 sl3 sl4 sl5 sl6 sl7 sl8 sl9 sl10 : Array (Option Value)} {oc1 kV1 dc1 pm1 cd1 ct1 oc2 kV2 dc2 pm2 cd2 ct2 oc3 kV3 dc3 pm3 cd3 ct3 oc4 kV4 dc4 pm4 cd4 ct4 oc5 kV5 dc5 pm5 cd5 ct5 oc6 kV6 dc6 pm6 cd6 ct6 oc7 kV7 dc7 pm7 cd7 ct7 oc8 kV8 dc8 pm8 cd8 ct8 oc9 kV9 dc9 pm9 cd9 ct9 oc10 kV10 dc10 pm10 cd10 ct10 : Value} {T2 : Addr} {ot2 : Value} {od'2 : Option Addr} {sl'2 : Array (Option Value)} {n2 : Nat} {t2_0 : _} {tg1 : _} (X : K.In h) (G : h.Ns mainGlobals mg) (hfa : mg "law" = some (.ref fa))
    (a1 : PySem.W.nsIn K mainGlobals "is_letter" = some (some (.ref f1)))
    (l1 : K.lookup f1 = some ⟨oc1, od1, .func (PySem.W.fnOf "is_letter" "is_letter" (defArgs s_is_letter) (defBody s_is_letter) (defScope s_is_letter) .none kV1 dc1 pm1 an1 cd1 ct1), sl1⟩)
    (c1 : PySem.W.codeIn K cd1 "is_letter" = true) (k1 : PySem.W.keepIn K (.ref f1) = true)
    (a2 : PySem.W.nsIn K mainGlobals "is_kind" = some (some (.ref f2)))
    (l2 : K.lookup f2 = some ⟨oc2, od2, .func (PySem.W.fnOf "is_kind" "is_kind" (defArgs s_is_kind) (defBody s_is_kind) (defScope s_is_kind) (.ref T2) kV2 dc2 pm2 an2 cd2 ct2), sl2⟩)
    (c2 : PySem.W.codeIn K cd2 "is_kind" = true) (k2 : PySem.W.keepIn K (.ref f2) = true)
    (t2 : K.lookup T2 = some ⟨ot2, od'2, .seq #[.int 1 t2_0] n2, sl'2⟩)
    (a3 : PySem.W.nsIn K mainGlobals "letters_of" = some (some (.ref f3)))
    (l3 : K.lookup f3 = some ⟨oc3, od3, .func (PySem.W.fnOf "letters_of" "letters_of" (defArgs s_letters_of) (defBody s_letters_of) (defScope s_letters_of) .none kV3 dc3 pm3 an3 cd3 ct3), sl3⟩)
    (c3 : PySem.W.codeIn K cd3 "letters_of" = true) (k3 : PySem.W.keepIn K (.ref f3) = true)
    (a4 : PySem.W.nsIn K mainGlobals "kind_text" = some (some (.ref f4)))
    (l4 : K.lookup f4 = some ⟨oc4, od4, .func (PySem.W.fnOf "kind_text" "kind_text" (defArgs s_kind_text) (defBody s_kind_text) (defScope s_kind_text) .none kV4 dc4 pm4 an4 cd4 ct4), sl4⟩)
    (c4 : PySem.W.codeIn K cd4 "kind_text" = true) (k4 : PySem.W.keepIn K (.ref f4) = true)
    (a5 : PySem.W.nsIn K mainGlobals "_law_next" = some (some (.ref f5)))
    (l5 : K.lookup f5 = some ⟨oc5, od5, .func (PySem.W.fnOf "_law_next" "_law_next" (defArgs s__law_next) (defBody s__law_next) (defScope s__law_next) .none kV5 dc5 pm5 an5 cd5 ct5), sl5⟩)
    (c5 : PySem.W.codeIn K cd5 "_law_next" = true) (k5 : PySem.W.keepIn K (.ref f5) = true)
    (a6 : PySem.W.nsIn K mainGlobals "_law_same" = some (some (.ref f6)))
    (l6 : K.lookup f6 = some ⟨oc6, od6, .func (PySem.W.fnOf "_law_same" "_law_same" (defArgs s__law_same) (defBody s__law_same) (defScope s__law_same) .none kV6 dc6 pm6 an6 cd6 ct6), sl6⟩)
    (c6 : PySem.W.codeIn K cd6 "_law_same" = true) (k6 : PySem.W.keepIn K (.ref f6) = true)
    (a7 : PySem.W.nsIn K mainGlobals "_law_kind" = some (some (.ref f7)))
    (l7 : K.lookup f7 = some ⟨oc7, od7, .func (PySem.W.fnOf "_law_kind" "_law_kind" (defArgs s__law_kind) (defBody s__law_kind) (defScope s__law_kind) .none kV7 dc7 pm7 an7 cd7 ct7), sl7⟩)
    (c7 : PySem.W.codeIn K cd7 "_law_kind" = true) (k7 : PySem.W.keepIn K (.ref f7) = true)
    (a8 : PySem.W.nsIn K mainGlobals "_law_letters" = some (some (.ref f8)))
    (l8 : K.lookup f8 = some ⟨oc8, od8, .func (PySem.W.fnOf "_law_letters" "_law_letters" (defArgs s__law_letters) (defBody s__law_letters) (defScope s__law_letters) .none kV8 dc8 pm8 an8 cd8 ct8), sl8⟩)
    (c8 : PySem.W.codeIn K cd8 "_law_letters" = true) (k8 : PySem.W.keepIn K (.ref f8) = true)
    (a9 : PySem.W.nsIn K mainGlobals "_law_text" = some (some (.ref f9)))
    (l9 : K.lookup f9 = some ⟨oc9, od9, .func (PySem.W.fnOf "_law_text" "_law_text" (defArgs s__law_text) (defBody s__law_text) (defScope s__law_text) .none kV9 dc9 pm9 an9 cd9 ct9), sl9⟩)
    (c9 : PySem.W.codeIn K cd9 "_law_text" = true) (k9 : PySem.W.keepIn K (.ref f9) = true)
    (a10 : PySem.W.nsIn K mainGlobals "law" = some (some (.ref f10)))
    (l10 : K.lookup f10 = some ⟨oc10, od10, .func (PySem.W.fnOf "law" "law" (defArgs s_law) (defBody s_law) (defScope s_law) .none kV10 dc10 pm10 an10 cd10 ct10), sl10⟩)
    (c10 : PySem.W.codeIn K cd10 "law" = true) (k10 : PySem.W.keepIn K (.ref f10) = true)
    (z1 : PySem.W.nsIn K mainGlobals "abs" = some none)
    (z2 : PySem.W.nsIn K mainGlobals "all" = some none)
    (z3 : PySem.W.nsIn K mainGlobals "bool" = some none)
    (z4 : PySem.W.nsIn K mainGlobals "dict" = some none)
    (z5 : PySem.W.nsIn K mainGlobals "int" = some none)
    (z6 : PySem.W.nsIn K mainGlobals "isinstance" = some none)
    (z7 : PySem.W.nsIn K mainGlobals "len" = some none)
    (z8 : PySem.W.nsIn K mainGlobals "list" = some none)
    (z9 : PySem.W.nsIn K mainGlobals "range" = some none)
    (z10 : PySem.W.nsIn K mainGlobals "str" = some none)
    (z11 : PySem.W.nsIn K mainGlobals "tuple" = some none)
    (g1 : PySem.W.nsIn K mainGlobals "MOST_KIND_DEPTH" = some (some (.int 5 tg1))) :
    ∃ (ad : Fn → Addr) (fd : Fn → FuncData), Tab K mg ad fd ∧ ad .f_law = fa ∧ ∀ (s : Shared) (u : Value), BindsTo s (fd .f_law) ⟨[u], []⟩ [("script", u)] := by
  have e := hfa.symm.trans (PySem.W.mg_of X G a10)
  cases e
  have F1 := funD_mk (st := s_is_letter) l1 c1 k1
  have F2 := funD_mkD (st := s_is_kind) (dvs := [V.int 1]) (its := [.int 1 t2_0]) l2 c2 k2 (by simp) t2 rfl (.cons ⟨_, rfl⟩ (.nil))
  have F3 := funD_mk (st := s_letters_of) l3 c3 k3
  have F4 := funD_mk (st := s_kind_text) l4 c4 k4
  have F5 := funD_mk (st := s__law_next) l5 c5 k5
  have F6 := funD_mk (st := s__law_same) l6 c6 k6
  have F7 := funD_mk (st := s__law_kind) l7 c7 k7
  have F8 := funD_mk (st := s__law_letters) l8 c8 k8
  have F9 := funD_mk (st := s__law_text) l9 c9 k9
  have F10 := funD_mk (st := s_law) l10 c10 k10
  refine ⟨fun | .f_is_letter => f1 | .f_is_kind => f2 | .f_letters_of => f3 | .f_kind_text => f4 | .f__law_next => f5 | .f__law_same => f6 | .f__law_kind => f7 | .f__law_letters => f8 | .f__law_text => f9 | .f_law => fa, fun | .f_is_letter => PySem.W.fnOf "is_letter" "is_letter" (defArgs s_is_letter) (defBody s_is_letter) (defScope s_is_letter) .none kV1 dc1 pm1 an1 cd1 ct1 | .f_is_kind => PySem.W.fnOf "is_kind" "is_kind" (defArgs s_is_kind) (defBody s_is_kind) (defScope s_is_kind) (.ref T2) kV2 dc2 pm2 an2 cd2 ct2 | .f_letters_of => PySem.W.fnOf "letters_of" "letters_of" (defArgs s_letters_of) (defBody s_letters_of) (defScope s_letters_of) .none kV3 dc3 pm3 an3 cd3 ct3 | .f_kind_text => PySem.W.fnOf "kind_text" "kind_text" (defArgs s_kind_text) (defBody s_kind_text) (defScope s_kind_text) .none kV4 dc4 pm4 an4 cd4 ct4 | .f__law_next => PySem.W.fnOf "_law_next" "_law_next" (defArgs s__law_next) (defBody s__law_next) (defScope s__law_next) .none kV5 dc5 pm5 an5 cd5 ct5 | .f__law_same => PySem.W.fnOf "_law_same" "_law_same" (defArgs s__law_same) (defBody s__law_same) (defScope s__law_same) .none kV6 dc6 pm6 an6 cd6 ct6 | .f__law_kind => PySem.W.fnOf "_law_kind" "_law_kind" (defArgs s__law_kind) (defBody s__law_kind) (defScope s__law_kind) .none kV7 dc7 pm7 an7 cd7 ct7 | .f__law_letters => PySem.W.fnOf "_law_letters" "_law_letters" (defArgs s__law_letters) (defBody s__law_letters) (defScope s__law_letters) .none kV8 dc8 pm8 an8 cd8 ct8 | .f__law_text => PySem.W.fnOf "_law_text" "_law_text" (defArgs s__law_text) (defBody s__law_text) (defScope s__law_text) .none kV9 dc9 pm9 an9 cd9 ct9 | .f_law => PySem.W.fnOf "law" "law" (defArgs s_law) (defBody s_law) (defScope s_law) .none kV10 dc10 pm10 an10 cd10 ct10, {
      F_is_letter := (F1),
      m_is_letter := (PySem.W.mg_of X G a1),
      b_is_letter := (F1.bindsN fun _ _ _ _ _ _ us hl => match us, hl with | [_], _ => rfl),
      F_is_kind := (F2),
      m_is_kind := (PySem.W.mg_of X G a2),
      b_is_kind := (by
        obtain ⟨ds, h1, h2⟩ := F2.binds1 (ps := params .f_is_kind) 3 1 (by simp) rfl (fun T kV doc pm an cdv ct us its h1 h2 => by match us, its, h1, h2 with | [_, _, _], [_], _, _ => exact ⟨_, rfl, rfl⟩)
        cases h1
        exact h2),
      d1_is_kind := (F2.binds1 2 0 (by simp) rfl (fun T kV doc pm an cdv ct us its h1 h2 => by match us, its, h1, h2 with | [_, _], [_], _, _ => exact ⟨_, rfl, rfl⟩)),
      F_letters_of := (F3),
      m_letters_of := (PySem.W.mg_of X G a3),
      b_letters_of := (F3.bindsN fun _ _ _ _ _ _ us hl => match us, hl with | [_], _ => rfl),
      F_kind_text := (F4),
      m_kind_text := (PySem.W.mg_of X G a4),
      b_kind_text := (F4.bindsN fun _ _ _ _ _ _ us hl => match us, hl with | [_], _ => rfl),
      F__law_next := (F5),
      m__law_next := (PySem.W.mg_of X G a5),
      b__law_next := (F5.bindsN fun _ _ _ _ _ _ us hl => match us, hl with | [_, _], _ => rfl),
      F__law_same := (F6),
      m__law_same := (PySem.W.mg_of X G a6),
      b__law_same := (F6.bindsN fun _ _ _ _ _ _ us hl => match us, hl with | [_, _], _ => rfl),
      F__law_kind := (F7),
      m__law_kind := (PySem.W.mg_of X G a7),
      b__law_kind := (F7.bindsN fun _ _ _ _ _ _ us hl => match us, hl with | [_, _, _], _ => rfl),
      F__law_letters := (F8),
      m__law_letters := (PySem.W.mg_of X G a8),
      b__law_letters := (F8.bindsN fun _ _ _ _ _ _ us hl => match us, hl with | [_], _ => rfl),
      F__law_text := (F9),
      m__law_text := (PySem.W.mg_of X G a9),
      b__law_text := (F9.bindsN fun _ _ _ _ _ _ us hl => match us, hl with | [_], _ => rfl),
      F_law := (F10),
      m_law := (PySem.W.mg_of X G a10),
      b_law := (F10.bindsN fun _ _ _ _ _ _ us hl => match us, hl with | [_], _ => rfl),
      z_abs := (PySem.W.mg_none_of X G z1),
      z_all := (PySem.W.mg_none_of X G z2),
      z_bool := (PySem.W.mg_none_of X G z3),
      z_dict := (PySem.W.mg_none_of X G z4),
      z_int := (PySem.W.mg_none_of X G z5),
      z_isinstance := (PySem.W.mg_none_of X G z6),
      z_len := (PySem.W.mg_none_of X G z7),
      z_list := (PySem.W.mg_none_of X G z8),
      z_range := (PySem.W.mg_none_of X G z9),
      z_str := (PySem.W.mg_none_of X G z10),
      z_tuple := (PySem.W.mg_none_of X G z11),
      g_MOST_KIND_DEPTH := (⟨_, PySem.W.mg_of X G g1⟩) }, rfl, fun s u => .of_eq rfl⟩
theorem law_ok {P : Program} {w : World} {K : PySem.W.Frag} {mg : Str → Option Value} {base : Heap} {ad : Fn → Addr} {fd : Fn → FuncData} {k : Nat} (T : Tab K mg ad fd) (hF : ∀ ns : List Int, ns.length ≤ 63 → ∃ μ, Φ k .f_law [.fro (ns.map .int)] [] = .ok (.bl true) μ) :
    FnOk P w K mg base (L2.CX P w) k (ad .f_law) (fd .f_law) ["script"] (spL K) := (all_ok T k .f_law).imp fun _ _ _ _ h => spL_spF hF h

end Law
end FP
namespace FP
namespace Law
open PySem PySem.Spec L2 PySem.W
open PyProof.Rows hiding St

/-! ### kinds, the rows -/
abbrev Row := Str × Nat
def rowD (r : Row) : D := .tup [.str r.1, .int r.2]
def letD (d : D) : Prop := d = .tup [.str "?", .str "a"] ∨ d = .tup [.str "?", .str "b"] ∨ d = .tup [.str "?", .str "c"]
/-- a kind at most m deep -/
def KD (rs : List Row) : Nat → D → Prop
  | 0, d => letD d ∨ ∃ nm, (nm, 0) ∈ rs ∧ d = .tup [.str nm, .tup []]
  | m + 1, d => letD d ∨ ∃ nm l, (nm, l.length) ∈ rs ∧ d = .tup [.str nm, .tup l] ∧ ∀ e ∈ l, KD rs m e
def allRows : List Row := [("num", 0), ("fn", 2), ("list", 1), ("bool", 0)]
/-- the rows that are drawn -/
inductive RowsOk : List Row → Prop where
  | two : RowsOk [("num", 0), ("fn", 2)]
  | three : RowsOk [("num", 0), ("fn", 2), ("list", 1)]
  | four : RowsOk [("num", 0), ("fn", 2), ("list", 1), ("bool", 0)]
theorem RowsOk.name {rs : List Row} (h : RowsOk rs) {nm : Str} {k : Nat} (m : (nm, k) ∈ rs) : nm ≠ "?" ∧ k ≤ 2 ∧ nm.length ≤ 4 ∧ PyData.strOk nm = true ∧ rs.length ≤ 4 := by
  cases h <;> (simp only [List.mem_cons, List.not_mem_nil, or_false, Prod.mk.injEq] at m; rcases m with ⟨rfl, rfl⟩ | m; · decide +kernel)
  · obtain ⟨rfl, rfl⟩ := m; decide +kernel
  · rcases m with ⟨rfl, rfl⟩ | ⟨rfl, rfl⟩ <;> decide +kernel
  · rcases m with ⟨rfl, rfl⟩ | ⟨rfl, rfl⟩ | ⟨rfl, rfl⟩ <;> decide +kernel
/-- at each depth: a letter, or a name with parts -/
theorem KD.cases {rs : List Row} {m : Nat} {d : D} (h : KD rs m d) : letD d ∨ ∃ nm l, (nm, l.length) ∈ rs ∧ d = .tup [.str nm, .tup l] ∧ ∀ e ∈ l, 0 < m ∧ KD rs (m - 1) e := by
  cases m with
  | zero =>
    rcases h with h | ⟨nm, h1, rfl⟩
    · exact .inl h
    · exact .inr ⟨nm, [], h1, rfl, fun _ h => by cases h⟩
  | succ m =>
    rcases h with h | ⟨nm, l, h1, rfl, h3⟩
    · exact .inl h
    · exact .inr ⟨nm, l, h1, rfl, fun e he => ⟨by omega, h3 e he⟩⟩
theorem KD.ind {rs : List Row} {P : Nat → D → Prop} (h0 : ∀ m d, letD d → P m d) (h1 : ∀ m nm l, (nm, l.length) ∈ rs → (∀ e ∈ l, 0 < m ∧ P (m - 1) e) → P m (.tup [.str nm, .tup l])) : ∀ (m : Nat) (d : D), KD rs m d → P m d
  | 0, d, h => by
    rcases h with h | ⟨nm, h2, rfl⟩
    · exact h0 _ _ h
    · exact h1 0 nm [] h2 fun _ h => by cases h
  | m + 1, d, h => by
    rcases h with h | ⟨nm, l, h2, rfl, h3⟩
    · exact h0 _ _ h
    · exact h1 (m + 1) nm l h2 fun e he => ⟨by omega, KD.ind h0 h1 m e (h3 e he)⟩
theorem dats_of : ∀ {l : List D}, (∀ e ∈ l, dat e = true) → dats l = true
  | [], _ => rfl
  | d :: l, h => by simp [dats, h d List.mem_cons_self, dats_of fun e he => h e (List.mem_cons_of_mem _ he)]
theorem deps_of : ∀ {l : List D} {n : Nat}, (∀ e ∈ l, dep e ≤ n) → deps l ≤ n
  | [], _, _ => Nat.zero_le _
  | d :: l, n, h => by
    simp only [deps]
    exact Nat.max_le.mpr ⟨h d List.mem_cons_self, deps_of fun e he => h e (List.mem_cons_of_mem _ he)⟩
theorem KD.dat {rs : List Row} (R : RowsOk rs) : ∀ (m : Nat) (d : D), KD rs m d → dat d = true ∧ dep d ≤ 2 * m + 2 := by
  refine KD.ind (fun m d h => ?_) fun m nm l hm ih => ?_
  · rcases h with rfl | rfl | rfl <;> exact ⟨by decide +kernel, by simp [dep, deps]⟩
  · obtain ⟨_, _, _, h4, _⟩ := R.name hm
    have e1 : dats l = true := dats_of fun e he => (ih e he).2.1
    have e2 : deps l ≤ 2 * m := deps_of fun e he => by
      have := ih e he
      omega
    exact ⟨by simp [FP.dat, dats, h4, e1], by simp [dep, deps]; omega⟩
/-- the names' dict -/
def kOf (rs : List Row) : List Key := rs.map fun r => .inr r.1
def vOf (rs : List Row) : List D := rs.map fun r => .int r.2
def rowsD (rs : List Row) : D := .ptu (rs.map rowD)
theorem rows_dict {rs : List Row} (R : RowsOk rs) (μ : Mem) : fDict [rowsD rs] μ = .ok (.dic (kOf rs) (vOf rs)) μ := by
  cases R <;> rfl
theorem rows_has {rs : List Row} (R : RowsOk rs) {nm : Str} {k : Nat} (m : (nm, k) ∈ rs) : hasK (kOf rs) (.inr nm) = true ∧ dget (kOf rs) (vOf rs) (.inr nm) = some (.int k) := by
  cases R <;> (simp only [List.mem_cons, List.not_mem_nil, or_false, Prod.mk.injEq] at m; rcases m with ⟨rfl, rfl⟩ | m; · exact ⟨by decide +kernel, rfl⟩)
  · obtain ⟨rfl, rfl⟩ := m; exact ⟨by decide +kernel, rfl⟩
  · rcases m with ⟨rfl, rfl⟩ | ⟨rfl, rfl⟩ <;> exact ⟨by decide +kernel, rfl⟩
  · rcases m with ⟨rfl, rfl⟩ | ⟨rfl, rfl⟩ | ⟨rfl, rfl⟩ <;> exact ⟨by decide +kernel, rfl⟩
theorem allBl_true {α : Type} : ∀ l : List α, allBl (l.map fun _ => D.bl true) = some (l.map fun _ => true)
  | [] => rfl
  | _ :: l => by simp [allBl, allBl_true l]
/-! ### is_kind -/
theorem is_kind_ok {rs : List Row} (R : RowsOk rs) : ∀ (m : Nat) (d : D), KD rs m d → ∀ (k n : Nat) (μ : Mem), k + m ≤ 5 → Φ (n + m + 3) .f_is_kind [rowsD rs, d, .int k] μ = .ok (.bl true) μ := by
  refine KD.ind (fun m d h k n μ hk => ?_) fun m nm l hm ih k n μ hk => ?_
  · show runF 5 (B_is_kind (Φ (n + m + 2))) _ _ = _
    have hk' : ¬ (5 : Int) < k := by omega
    have lt : ∀ c, (c = "a" ∨ c = "b" ∨ c = "c") → Φ (n + m + 2) .f_is_letter [.str c] μ = .ok (.bl true) μ := by
      rintro c (rfl | rfl | rfl) <;> rfl
    rw [run_is]
    have ix0 : ∀ c, fIxA (.tup [.str "?", .str c]) (.int 0) μ = .ok (.str "?") μ := fun c => rfl
    have ix1 : ∀ c, fIxA (.tup [.str "?", .str c]) (.int 1) μ = .ok (.str c) μ := fun c => rfl
    rcases h with rfl | rfl | rfl <;> simp [B_is_kind, startD, tyD, isi, len_tup, ix0, ix1, hk', lt, retOk, noL]
  · show runF 5 (B_is_kind (Φ (n + m + 2))) _ _ = _
    obtain ⟨h1, h2, h3, h4, h5⟩ := R.name hm
    obtain ⟨g1, g2⟩ := rows_has R hm
    have hk' : ¬ (5 : Int) < k := by omega
    rw [run_is]
    have ix0 : fIxA (.tup [.str nm, .tup l]) (.int 0) μ = .ok (.str nm) μ := rfl
    have ix1 : fIxA (.tup [.str nm, .tup l]) (.int 1) μ = .ok (.tup l) μ := rfl
    have hq : (nm == ("?" : Str)) = false := by simpa using h1
    have dn : fInA true (.str nm) (.dic (kOf rs) (vOf rs)) μ = .ok (.bl false) μ := by simp [fInA, dicOf, keyD, g1]
    have di : fIxA (.dic (kOf rs) (vOf rs)) (.str nm) μ = .ok (.int l.length) μ := by simp [fIxA, dicOf, keyD, g2]
    have lc : lcLoop (.nm 4) bTrue (mFn (Φ (n + m + 2) .f_is_kind) 3 [] (aCons (mVar 0) (aCons (mVar 4) (aCons (mOp fAdd (mVar 2) (mC (D.int 1))) aNil)))) [some (rowsD rs), some (.tup [.str nm, .tup l]), some (.int k), some (.dic (kOf rs) (vOf rs)), none] l [] μ = .ok (.lst (l.map fun _ => .bl true)) μ := by
      refine lc_map (fun _ => .bl true) l [] (by simp; omega) fun d hd => ⟨_, rfl, ?_⟩
      obtain ⟨p0, p⟩ := ih d hd
      have p := p (k + 1) n μ (by omega)
      have e : n + (m - 1) + 3 = n + m + 2 := by omega
      rw [e] at p
      have e2 : (((k + 1 : Nat) : Int)) = (k : Int) + 1 := by omega
      rw [e2] at p
      simp [p]
    have ga : fAll [.lst (l.map fun _ => D.bl true)] μ = .ok (.bl true) μ := by simp [fAll, lseq, allBl_true]
    simp [-xk_of, B_is_kind, startD, tyD, isi, len_tup, ix0, ix1, hk', hq, dn, di, rows_dict R, noL, wipeD, FP.xk_of, itemsD, lc, ga]
end Law
end FP
namespace FP
namespace Law
open PySem PySem.Spec L2 PySem.W
open PyProof.Rows hiding St
/-! ### the letters of a kind -/
def allL (L : D → List Str) (done : List D) : List Str := done.foldl (fun a e => addTo a (L e)) []
theorem allL_snoc (L : D → List Str) (done : List D) (d : D) : allL L (done ++ [d]) = addTo (allL L done) (L d) := by simp [allL]
theorem allL_nodup {L : D → List Str} : ∀ (done acc : List D) (a : List Str), a.Nodup → (∀ e ∈ done, (L e).Nodup) → (done.foldl (fun a e => addTo a (L e)) a).Nodup
  | [], _, _, h, _ => h
  | d :: done, acc, a, h, g => allL_nodup done acc _ (addTo_nodup h (g d List.mem_cons_self)) fun e he => g e (List.mem_cons_of_mem _ he)
theorem allL_length {L : D → List Str} {b : Nat} : ∀ (done : List D) (a : List Str), (∀ e ∈ done, (L e).length ≤ b) → (done.foldl (fun a e => addTo a (L e)) a).length ≤ a.length + done.length * b
  | [], _, _ => by simp
  | d :: done, a, g => by
    have h1 := addTo_length a (L d)
    have h2 := g d List.mem_cons_self
    have h3 := allL_length done (addTo a (L d)) fun e he => g e (List.mem_cons_of_mem _ he)
    simp only [List.foldl_cons, List.length_cons, Nat.add_mul]
    omega
/-- what the two say of a kind's letters -/
def LetOk (N : Nat) (m : Nat) (d : D) (ls : List Str) : Prop := ls.Nodup ∧ ls.length ≤ 2 ^ m ∧ ∀ n μ, Φ (n + m + 1) .f_letters_of [d] μ = .ok (.tup (ls.map .str)) μ ∧ Φ (n + m + 1) .f__law_letters [d] μ = .ok (.lst (ls.map .str)) μ
theorem let_dict {F : FN} {d : D} {k : D} {ls acc : List Str} {μ : Mem} {o3 : Option D} (hF : F [d] μ = .ok (.tup (ls.map .str)) μ) (hn : ls.Nodup) (hb : acc.length + ls.length < 10000000) :
    ∃ o, sFor [1] (.nm 3) (iOfL (mFn F 1 [] (aCons (mVar 2) aNil))) (sDSet [1] 1 (mVar 3) (mC (D.bl true))) [some k, some (.dic (acc.map .inr) (acc.map fun _ => .bl true)), some d, o3] μ = .nx [some k, some (.dic ((addTo acc ls).map .inr) ((addTo acc ls).map fun _ => .bl true)), some d, o] μ := by
  obtain ⟨η', μ', e, hp⟩ := for_inv (g := .nm 3) (body := sDSet [1] 1 (mVar 3) (mC (D.bl true)))
    (fun done η μ' => μ' = μ ∧ ∃ lz : List Str, done = lz.map .str ∧ ∃ o, η = [some k, some (.dic ((addTo acc lz).map .inr) ((addTo acc lz).map fun _ => .bl true)), some d, o])
    (ls.map .str) [] [some k, some (.dic (acc.map .inr) (acc.map fun _ => .bl true)), some d, o3] μ ⟨rfl, [], rfl, o3, by simp [addTo]⟩ (fun dn e rest he η μ1 hp => by
      obtain ⟨rfl, lz, rfl, o, rfl⟩ := hp
      obtain ⟨l1, l2, e1, e2, e3⟩ := List.map_eq_append_iff.mp (show ls.map D.str = lz.map D.str ++ e :: rest by simpa using he)
      obtain ⟨x, l3, e4, e5, e6⟩ := List.map_eq_cons_iff.mp e3
      have e7 : l1 = lz := by
        have := congrArg (List.map fun d => match d with | D.str s => s | _ => "") e2
        simpa [List.map_map, Function.comp_def] using this
      subst e7
      subst e1 e4 e5
      have hx : x ∉ l1 := by
        rw [List.nodup_append] at hn
        intro hx
        exact hn.2.2 x hx x List.mem_cons_self rfl
      have hl : (addTo acc l1).length < 10000000 := by
        have := addTo_length acc l1
        simp at hb
        omega
      obtain ⟨k1, k2⟩ := dput_one (addTo acc l1) x (.bl true)
      refine ⟨[some k, some (.dic ((addTo acc l1).map .inr) ((addTo acc l1).map fun _ => .bl true)), some d, some (.str x)], _, _, rfl, ?_, rfl, l1 ++ [x], by simp, some (.str x), rfl⟩
      simp [keyD, noL, hl, k1, k2, addTo_snoc hx])
  obtain ⟨rfl, lz, e1, o, rfl⟩ := hp
  have e7 : ls = lz := by
    have := congrArg (List.map fun d => match d with | D.str s => s | _ => "") e1
    simpa [List.map_map, Function.comp_def] using this
  subst e7
  exact ⟨o, by simp [hF, itemsD, tgOk, tgIn, noLs_strs, e]⟩
theorem noLs_of : ∀ {l : List D}, (∀ e ∈ l, noL e = true) → noLs l = true
  | [], _ => rfl
  | a :: l, h => by simp [noLs, h a List.mem_cons_self, noLs_of fun e he => h e (List.mem_cons_of_mem _ he)]
theorem KD.noL {rs : List Row} : ∀ (m : Nat) (d : D), KD rs m d → noL d = true := by
  refine KD.ind (fun m d h => ?_) fun m nm l hm ih => ?_
  · rcases h with rfl | rfl | rfl <;> rfl
  · have := noLs_of fun e he => (ih e he).2
    simp [FP.noL, noLs, this]
theorem ph_let (n : Nat) : Φ (n + 1) .f_letters_of = runF 4 (B_letters_of (Φ n)) := rfl
theorem ph_llet (n : Nat) : Φ (n + 1) .f__law_letters = runF 4 (B__law_letters (Φ n)) := rfl
theorem letters_ok {rs : List Row} (R : RowsOk rs) : ∀ (m : Nat) (d : D), KD rs m d → noL d = true ∧ (m ≤ 3 → ∃ ls : List Str, LetOk 0 m d ls) := by
  refine KD.ind (fun m d h => ⟨KD.noL (rs := rs) 0 d (.inl h), fun hm => ?_⟩) fun m nm l hm ih => ?_
  · have one : ∀ c : Str, LetOk 0 m (.tup [.str "?", .str c]) [c] := fun c => by
      refine ⟨by simp, by simpa using Nat.one_le_two_pow, fun n μ => ?_⟩
      have ix0 : fIxA (.tup [.str "?", .str c]) (.int 0) μ = .ok (.str "?") μ := rfl
      have ix1 : fIxA (.tup [.str "?", .str c]) (.int 1) μ = .ok (.str c) μ := rfl
      constructor
      · rw [ph_let, run_is]
        simp [B_letters_of, startD, ix0, ix1, noL, noLs]
      · rw [ph_llet, run_is]
        simp [B__law_letters, startD, ix0, ix1, retOk, noL, noLs]
    rcases h with rfl | rfl | rfl
    · exact ⟨_, one _⟩
    · exact ⟨_, one _⟩
    · exact ⟨_, one _⟩
  · obtain ⟨h1, h2, h3, h4, h5⟩ := R.name hm
    have nl : noLs l = true := noLs_of fun e he => (ih e he).2.1
    refine ⟨by simp [noL, noLs, nl], fun hm3 => ?_⟩
    obtain ⟨L, hL⟩ := choose_on (l := l) (Q := fun e ls => 0 < m ∧ LetOk 0 (m - 1) e ls) fun e he => by
      obtain ⟨p0, _, p⟩ := ih e he
      obtain ⟨ls, q⟩ := p (by omega)
      exact ⟨ls, p0, q⟩
    have nd : ∀ done : List D, (∀ e ∈ done, e ∈ l) → (allL L done).Nodup := fun done hd => allL_nodup done [] [] List.nodup_nil fun e he => (hL e (hd e he)).2.1
    have hq : (nm == ("?" : Str)) = false := by simpa using h1
    have ln0 : ∀ done : List D, (∀ e ∈ done, e ∈ l) → (allL L done).length ≤ done.length * 2 ^ (m - 1) := fun done hd => by
      have := allL_length (L := L) (b := 2 ^ (m - 1)) done [] fun e he => (hL e (hd e he)).2.2.1
      simpa [allL] using this
    have p8 : 2 ^ (m - 1) ≤ 8 := by
      have : m = 0 ∨ m = 1 ∨ m = 2 ∨ m = 3 := by omega
      rcases this with rfl | rfl | rfl | rfl <;> decide
    have small : ∀ done : List D, (∀ e ∈ done, e ∈ l) → done.length ≤ 2 → (allL L done).length ≤ 16 := fun done hd hl => by
      have z := ln0 done hd
      have z2 : done.length * 2 ^ (m - 1) ≤ 2 * 8 := Nat.mul_le_mul hl p8
      omega
    have lb : (allL L l).length ≤ 2 ^ m := by
      have z := ln0 l fun _ h => h
      by_cases hl : l = []
      · subst hl; simp [allL]
      · obtain ⟨e, he⟩ := List.exists_mem_of_ne_nil l hl
        have p0 := (hL e he).1
        have z2 : l.length * 2 ^ (m - 1) ≤ 2 * 2 ^ (m - 1) := Nat.mul_le_mul_right _ h2
        have e : 2 ^ m = 2 * 2 ^ (m - 1) := by
          have : m = (m - 1) + 1 := by omega
          rw [this, Nat.pow_succ]
          simp
          omega
        omega
    refine ⟨allL L l, nd l fun _ h => h, lb, fun n μ => ?_⟩
    have ix0 : fIxA (.tup [.str nm, .tup l]) (.int 0) μ = .ok (.str nm) μ := rfl
    have ix1 : fIxA (.tup [.str nm, .tup l]) (.int 1) μ = .ok (.tup l) μ := rfl
    have sub : ∀ {dn : List D} {d : D} {rest : List D}, ([] : List D) ++ l = dn ++ d :: rest → (∀ e ∈ dn, e ∈ l) ∧ d ∈ l ∧ dn.length ≤ 2 := fun {dn d rest} e => by
      rw [List.nil_append] at e
      refine ⟨fun x hx => by rw [e]; exact List.mem_append_left _ hx, by rw [e]; simp, ?_⟩
      have := congrArg List.length e
      rw [List.length_append] at this
      omega
    constructor
    · rw [ph_let, run_is]
      obtain ⟨η', μ', e, hp⟩ := for_inv (g := .nm 2) (body := (sFor [1] (.nm 3) (iOfL (mFn (Φ (n + m) .f_letters_of) 1 [] (aCons (mVar 2) aNil))) (sDSet [1] 1 (mVar 3) (mC (D.bl true)))))
        (fun done η μ' => μ' = μ ∧ ∃ o2 o3, η = [some (.tup [.str nm, .tup l]), some (.dic ((allL L done).map .inr) ((allL L done).map fun _ => .bl true)), o2, o3])
        l [] [some (.tup [.str nm, .tup l]), some (.dic [] []), none, none] μ ⟨rfl, none, none, rfl⟩ (fun dn d rest he η μ1 hp => by
          obtain ⟨rfl, o2, o3, rfl⟩ := hp
          obtain ⟨s1, s2, s3⟩ := sub he
          obtain ⟨p0, q1, q2, q3⟩ := hL d s2
          have q3 := (q3 n μ1).1
          have e1 : n + (m - 1) + 1 = n + m := by omega
          rw [e1] at q3
          have w := small dn s1 s3
          have w2 : 2 ^ (m - 1) ≤ 8 := p8
          obtain ⟨o, eo⟩ := let_dict (F := Φ (n + m) .f_letters_of) (d := d) (k := .tup [.str nm, .tup l]) (acc := allL L dn) (o3 := o3) q3 q1 (by omega)
          refine ⟨_, _, _, rfl, eo, rfl, some d, o, ?_⟩
          rw [allL_snoc])
      obtain ⟨rfl, o2, o3, rfl⟩ := hp
      have kv : ∀ l : List Str, (l.map (Sum.inr : Str → Key)).map keyV = l.map .str := fun l => by rw [List.map_map]; rfl
      simp [-xk_dset2, B_letters_of, startD, ix0, ix1, hq, itemsN, tgOk, tgIn, nl, e, fTuple', dicOf, kv, noL, noLs_strs]
    · rw [ph_llet, run_is]
      obtain ⟨η', μ', e, hp⟩ := for_inv (g := .nm 2) (body := (sOwn 1 (mOp fAddL (mVar 1) (mLc (iOf (mFn (Φ (n + m) .f__law_letters) 1 [] (aCons (mVar 2) aNil))) (.nm 3) [3] (mTst (mOp (fInA true) (mVar 3) (mVar 1))) (mVar 3)))))
        (fun done η μ' => μ' = μ ∧ ∃ o2, η = [some (.tup [.str nm, .tup l]), some (.lst ((allL L done).map .str)), o2, none])
        l [] [some (.tup [.str nm, .tup l]), some (.lst []), none, none] μ ⟨rfl, none, rfl⟩ (fun dn d rest he η μ1 hp => by
          obtain ⟨rfl, o2, rfl⟩ := hp
          obtain ⟨s1, s2, s3⟩ := sub he
          obtain ⟨p0, q1, q2, q3⟩ := hL d s2
          have q3 := (q3 n μ1).2
          have e1 : n + (m - 1) + 1 = n + m := by omega
          rw [e1] at q3
          have w := small dn s1 s3
          have lc := lc_all (g := .nm 3) (tst := mTst (mOp (fInA true) (mVar 3) (mVar 1))) (elt := mVar 3) (η := [some (.tup [.str nm, .tup l]), some (.lst ((allL L dn).map .str)), some d, none]) (μ := μ1)
            (fun x => match x with | .str s => !decide (s ∈ allL L dn) | _ => false) id ((L d).map .str) [] (by simp; omega) (fun x hx => by
              obtain ⟨s, _, rfl⟩ := List.mem_map.mp hx
              exact ⟨_, rfl, by simp [notIn_strs], fun _ => by simp⟩)
          have fl : ((L d).map D.str).filter (fun x => match x with | .str s => !decide (s ∈ allL L dn) | _ => false) = ((L d).filter fun s => !decide (s ∈ allL L dn)).map .str := by
            rw [List.filter_map]; rfl
          rw [fl, List.map_id, List.nil_append] at lc
          have ad : fAddL (.lst ((allL L dn).map .str)) (.lst (((L d).filter fun s => !decide (s ∈ allL L dn)).map .str)) μ1 = .ok (.lst ((allL L (dn ++ [d])).map .str)) μ1 := by
            have z := List.length_filter_le (fun s => !decide (s ∈ allL L dn)) (L d)
            unfold fAddL
            simp only [List.length_map]
            rw [if_pos (by omega), allL_snoc, addTo, List.map_append]
          have w2 : noLs ((allL L (dn ++ [d])).map .str) = true := noLs_strs _
          refine ⟨_, _, _, rfl, ?_, rfl, some d, rfl⟩
          simp [q3, FP.xk_of, itemsD, wipeD, lc, ad, w2])
      obtain ⟨rfl, o2, rfl⟩ := hp
      simp [B__law_letters, startD, ix0, ix1, hq, itemsN, tgOk, tgIn, nl, e, noL, noLs]
end Law
end FP
namespace FP
namespace Law
open PySem PySem.Spec L2 PySem.W
open PyProof.Rows hiding St
theorem KD.ind' {rs : List Row} {P : Nat → D → Prop} (h0 : ∀ m d, letD d → P m d) (h1 : ∀ m nm l, (nm, l.length) ∈ rs → KD rs m (.tup [.str nm, .tup l]) → (∀ e ∈ l, 0 < m ∧ KD rs (m - 1) e ∧ P (m - 1) e) → P m (.tup [.str nm, .tup l])) : ∀ (m : Nat) (d : D), KD rs m d → P m d
  | 0, d, h => by
    rcases h with h | ⟨nm, h2, rfl⟩
    · exact h0 _ _ h
    · exact h1 0 nm [] h2 (.inr ⟨nm, h2, rfl⟩) fun _ h => by cases h
  | m + 1, d, h => by
    rcases h with h | ⟨nm, l, h2, rfl, h3⟩
    · exact h0 _ _ h
    · exact h1 (m + 1) nm l h2 (.inr ⟨nm, l, h2, rfl, h3⟩) fun e he => ⟨by omega, h3 e he, KD.ind' h0 h1 m e (h3 e he)⟩
/-! ### texts -/
theorem len_app (a b : Str) : (a ++ b).length = a.length + b.length := by
  rw [TL.len_tl, TL.len_tl, TL.len_tl, TL.tl_append, List.length_append]
theorem joinL_blank (s : List Nat) : ∀ (bs : List (List Nat)) (a : List Nat), TL.joinL s (a :: bs) = a ++ TL.joinL [] (bs.map fun b => s ++ b)
  | [], a => by simp [TL.joinL]
  | [b], a => by simp [TL.joinL]
  | b :: c :: bs, a => by
    have ih := joinL_blank s (c :: bs) b
    show a ++ (s ++ TL.joinL s (b :: c :: bs)) = _
    rw [ih]
    simp [TL.joinL]
theorem join_same (nm : Str) (ts : List Str) : Txt.join " " (nm :: ts) = nm ++ Txt.join "" (ts.map fun t => " " ++ t) := by
  apply TL.ext_tl
  rw [TL.tl_append, TL.join_eq, TL.join_eq, TL.tl_join, TL.tl_join]
  have e : TL.tl ("" : Str) = [] := by decide +kernel
  rw [List.map_cons, joinL_blank, List.map_map, List.map_map, e]
  congr 2
  refine List.map_congr_left fun t _ => ?_
  exact (TL.tl_append " " t).symm
theorem join_len0 : ∀ ts : List Str, (Txt.join "" ts).length = (ts.map (·.length)).sum
  | ts => by
    rw [TL.join_eq, TL.len_tl, TL.tl_join]
    have e : TL.tl ("" : Str) = [] := by decide +kernel
    rw [e]
    have : ∀ ls : List (List Nat), (TL.joinL [] ls).length = (ls.map List.length).sum := by
      intro ls
      induction ls with
      | nil => rfl
      | cons a ls ih =>
        cases ls with
        | nil => simp [TL.joinL]
        | cons b ls =>
          show (a ++ ([] ++ TL.joinL [] (b :: ls))).length = _
          rw [List.length_append, List.nil_append, ih]
          simp
    rw [this, List.map_map]
    congr 1
theorem strsD_strs : ∀ ts : List Str, strsD (ts.map .str) = some ts
  | [] => rfl
  | t :: ts => by simp [strsD, strsD_strs ts]
theorem sum_le {L : D → Str} {b : Nat} : ∀ l : List D, (∀ e ∈ l, (L e).length ≤ b) → (l.map fun e => (L e).length).sum ≤ l.length * b
  | [], _ => by simp
  | a :: l, h => by
    have := sum_le l fun e he => h e (List.mem_cons_of_mem _ he)
    have := h a List.mem_cons_self
    simp only [List.map_cons, List.sum_cons, List.length_cons, Nat.add_mul]
    omega
def TextOk (m : Nat) (d : D) (t : Str) : Prop := t.length ≤ 40 * 4 ^ m ∧ ∀ n μ, Φ (n + m + 1) .f_kind_text [d] μ = .ok (.str t) μ ∧ Φ (n + m + 1) .f__law_text [d] μ = .ok (.str t) μ
theorem ph_text (n : Nat) : Φ (n + 1) .f_kind_text = runF 2 (B_kind_text (Φ n)) := rfl
theorem ph_ltext (n : Nat) : Φ (n + 1) .f__law_text = runF 2 (B__law_text (Φ n)) := rfl
theorem add_str {a b : Str} (h : a.length + b.length ≤ 10000000) (μ : Mem) : fAdd (.str a) (.str b) μ = .ok (.str (a ++ b)) μ := by
  unfold fAdd
  simp only [if_pos h]
theorem text_ok {rs : List Row} (R : RowsOk rs) : ∀ (m : Nat) (d : D), KD rs m d → (m ≤ 3 → ∃ t : Str, TextOk m d t) := by
  refine KD.ind' (fun m d h hm => ?_) fun m nm l hm kd ih hm3 => ?_
  · have one : ∀ c : Str, c.length = 1 → TextOk m (.tup [.str "?", .str c]) ("?" ++ c) := fun c hc => by
      have lq : ("?" : Str).length = 1 := by decide +kernel
      have p1 : 1 ≤ 4 ^ m := Nat.one_le_pow _ _ (by decide)
      refine ⟨by rw [len_app, lq]; omega, fun n μ => ?_⟩
      have ix0 : fIxA (.tup [.str "?", .str c]) (.int 0) μ = .ok (.str "?") μ := rfl
      have ix1 : fIxA (.tup [.str "?", .str c]) (.int 1) μ = .ok (.str c) μ := rfl
      have ad : fAdd (.str "?") (.str c) μ = .ok (.str ("?" ++ c)) μ := add_str (by omega) μ
      constructor
      · rw [ph_text, run_is]
        simp [B_kind_text, startD, ix0, ix1, noL, noLs, ad]
      · rw [ph_ltext, run_is]
        simp [B__law_text, startD, ix0, ix1, noL, noLs, ad]
    rcases h with rfl | rfl | rfl <;> exact ⟨_, one _ (by decide +kernel)⟩
  · obtain ⟨h1, h2, h3, h4, h5⟩ := R.name hm
    obtain ⟨T, hT⟩ := choose_on (l := l) (Q := fun e t => 0 < m ∧ TextOk (m - 1) e t) fun e he => by
      obtain ⟨p0, _, p⟩ := ih e he
      obtain ⟨t, q⟩ := p (by omega)
      exact ⟨t, p0, q⟩
    have hq : (nm == ("?" : Str)) = false := by simpa using h1
    obtain ⟨da, dp⟩ := KD.dat R m _ kd
    have da2 : FP.dat (.tup l) = true := by simpa [FP.dat, dats, h4] using da
    have dp2 : dep (.tup l) ≤ 64 := by simp [dep, deps] at dp ⊢; omega
    have ix0 : ∀ μ, fIxA (.tup [.str nm, .tup l]) (.int 0) μ = .ok (.str nm) μ := fun μ => rfl
    have ix1 : ∀ μ, fIxA (.tup [.str nm, .tup l]) (.int 1) μ = .ok (.tup l) μ := fun μ => rfl
    have eq : ∀ μ, fEq (.tup l) (.tup []) μ = .ok (.bl (decide (l = []))) μ := fun μ => by
      rw [eq_dat da2 rfl dp2 (by simp [dep, deps])]
      cases l with
      | nil => rfl
      | cons a l => simp [pd, pds, PyData.eqv, PyData.eqvAll]
    have p1 : 1 ≤ 4 ^ (m - 1) := Nat.one_le_pow _ _ (by decide)
    have p64 : 4 ^ (m - 1) ≤ 64 := by
      have : m = 0 ∨ m = 1 ∨ m = 2 ∨ m = 3 := by omega
      rcases this with rfl | rfl | rfl | rfl <;> decide
    have pm : 4 ^ (m - 1) ≤ 4 ^ m := Nat.pow_le_pow_right (by decide) (by omega)
    by_cases hl : l = []
    · subst hl
      refine ⟨nm, by omega, fun n μ => ?_⟩
      have eq' := eq μ
      simp only [decide_true] at eq'
      constructor
      · rw [ph_text, run_is]
        simp [B_kind_text, startD, ix0, ix1, hq, eq', noL]
      · rw [ph_ltext, run_is]
        simp [B__law_text, startD, ix0, ix1, hq, eq', noL]
    · obtain ⟨e0, he0⟩ := List.exists_mem_of_ne_nil l hl
      have m0 := (hT e0 he0).1
      have pe : 4 ^ m = 4 * 4 ^ (m - 1) := by
        have : m = (m - 1) + 1 := by omega
        rw [this, Nat.pow_succ]
        simp
        omega
      have sm := sum_le (L := T) (b := 40 * 4 ^ (m - 1)) l fun e he => (hT e he).2.1
      have sm2 : l.length * (40 * 4 ^ (m - 1)) ≤ 2 * (40 * 4 ^ (m - 1)) := Nat.mul_le_mul_right _ h2
      have jl : (Txt.join "" ((l.map T).map fun t => " " ++ t)).length = l.length + (l.map fun e => (T e).length).sum := by
        rw [join_len0, List.map_map, List.map_map]
        have : ∀ l : List D, (l.map (((fun x : Str => x.length) ∘ fun t => " " ++ t) ∘ T)).sum = l.length + (l.map fun e => (T e).length).sum := by
          intro l
          induction l with
          | nil => rfl
          | cons a l ih =>
            have lb : (" " : Str).length = 1 := by decide +kernel
            simp only [List.map_cons, List.sum_cons, ih, Function.comp, len_app, lb, List.length_cons]
            omega
        exact this l
      have lo : ("(" : Str).length = 1 := by decide +kernel
      have lc : (")" : Str).length = 1 := by decide +kernel
      have lb : (" " : Str).length = 1 := by decide +kernel
      have as1 : ("(" : Str) ++ nm ++ Txt.join "" ((l.map T).map fun t => " " ++ t) ++ ")" = "(" ++ Txt.join " " (nm :: l.map T) ++ ")" := by
        rw [join_same]
        apply TL.ext_tl
        simp [TL.tl_append]
      have jl2 : (Txt.join " " (nm :: l.map T)).length = nm.length + (l.length + (l.map fun e => (T e).length).sum) := by
        rw [join_same, len_app, jl]
      refine ⟨"(" ++ Txt.join " " (nm :: l.map T) ++ ")", ?_, fun n μ => ?_⟩
      · rw [len_app, len_app, lo, lc, jl2]
        omega
      have eq' := eq μ
      simp only [hl, decide_false] at eq'
      have e1 : n + (m - 1) + 1 = n + m := by omega
      constructor
      · rw [ph_text, run_is]
        have lc1 : lcLoop (.nm 1) bTrue (mFn (Φ (n + m) .f_kind_text) 1 [] (aCons (mVar 1) aNil)) [some (.tup [.str nm, .tup l]), none] l [] μ = .ok (.lst (l.map fun e => .str (T e))) μ := by
          refine lc_map (fun e => .str (T e)) l [] (by simp; omega) fun d hd => ⟨_, rfl, ?_⟩
          have q := ((hT d hd).2.2 n μ).1
          rw [e1] at q
          simp [q]
        have a1 : fAdd (.lst [.str nm]) (.lst (l.map fun e => .str (T e))) μ = .ok (.lst ((nm :: l.map T).map .str)) μ := by
          unfold fAdd
          simp only [List.length_map, List.length_cons, List.length_nil]
          rw [if_pos (by omega)]
          simp
        have j1 : fJoin " " (.lst ((nm :: l.map T).map .str)) μ = .ok (.str (Txt.join " " (nm :: l.map T))) μ := by
          simp only [fJoin, aseq, lseq, strsD_strs]
          rw [if_pos]
          have : ((nm :: l.map T).map (·.length)).sum = nm.length + (l.map fun e => (T e).length).sum := by simp [Function.comp_def]
          rw [this, lb, List.length_cons, List.length_map]
          omega
        have a2 : fAdd (.str "(") (.str (Txt.join " " (nm :: l.map T))) μ = .ok (.str ("(" ++ Txt.join " " (nm :: l.map T))) μ := add_str (by rw [lo, jl2]; omega) μ
        have a3 : fAdd (.str ("(" ++ Txt.join " " (nm :: l.map T))) (.str ")") μ = .ok (.str ("(" ++ Txt.join " " (nm :: l.map T) ++ ")")) μ := add_str (by rw [len_app, lo, lc, jl2]; omega) μ
        simp only [List.map_cons] at a1 j1
        simp [-List.map_map, B_kind_text, startD, ix0, ix1, hq, eq', FP.xk_of, itemsD, wipeD, lc1, a1, j1, a2, a3, noL]
      · rw [ph_ltext, run_is]
        have lc1 : lcLoop (.nm 1) bTrue (mOp fAdd (mC (D.str " ")) (mFn (Φ (n + m) .f__law_text) 1 [] (aCons (mVar 1) aNil))) [some (.tup [.str nm, .tup l]), none] l [] μ = .ok (.lst (l.map fun e => .str (" " ++ T e))) μ := by
          refine lc_map (fun e => .str (" " ++ T e)) l [] (by simp; omega) fun d hd => ⟨_, rfl, ?_⟩
          have q := ((hT d hd).2.2 n μ).2
          rw [e1] at q
          have b := (hT d hd).2.1
          have ad : fAdd (.str " ") (.str (T d)) μ = .ok (.str (" " ++ T d)) μ := add_str (by omega) μ
          simp [q, ad]
        have em : (l.map fun e => D.str (" " ++ T e)) = ((l.map T).map fun t : Str => (" " : Str) ++ t).map D.str := by simp [Function.comp_def]
        rw [em] at lc1
        have le : ("" : Str).length = 0 := by decide +kernel
        have j1 : fJoin "" (.lst (((l.map T).map fun t : Str => (" " : Str) ++ t).map D.str)) μ = .ok (.str (Txt.join "" ((l.map T).map fun t => " " ++ t))) μ := by
          simp only [fJoin, aseq, lseq, strsD_strs]
          rw [if_pos]
          rw [← join_len0, jl, le]
          omega
        have a0 : fAdd (.str "(") (.str nm) μ = .ok (.str ("(" ++ nm)) μ := add_str (by omega) μ
        have a2 : fAdd (.str ("(" ++ nm)) (.str (Txt.join "" ((l.map T).map fun t => " " ++ t))) μ = .ok (.str ("(" ++ nm ++ Txt.join "" ((l.map T).map fun t => " " ++ t))) μ := add_str (by rw [len_app, lo, jl]; omega) μ
        have a3 : fAdd (.str ("(" ++ nm ++ Txt.join "" ((l.map T).map fun t => " " ++ t))) (.str ")") μ = .ok (.str ("(" ++ Txt.join " " (nm :: l.map T) ++ ")")) μ := by
          rw [add_str (by rw [len_app, len_app, lo, lc, jl]; omega), as1]
        simp [-List.map_map, B__law_text, startD, ix0, ix1, hq, eq', FP.xk_of, itemsD, wipeD, lc1, j1, a0, a2, a3, noL]
end Law
end FP
namespace FP
namespace Law
open PySem PySem.Spec L2 PySem.W
open PyProof.Rows hiding St
/-! ### the kind that is drawn -/
/-- the memory is a tape -/
def Tape (ns : List Int) (μ : Mem) : Prop := ∃ i r s, 0 ≤ i ∧ μ = tp (ns.map .int) i r s
theorem next_tape {ns : List Int} {μ : Mem} (h : Tape ns μ) (n : Nat) {many : Int} (h0 : 0 < many) (h1 : many < 1073741824) : ∃ (v : Nat) (μ' : Mem), Φ (n + 1) .f__law_next [.ptr 0, .int many] μ = .ok (.int v) μ' ∧ (v : Int) < many ∧ Tape ns μ' := by
  obtain ⟨i, r, s, hi, rfl⟩ := h
  obtain ⟨v, i', r', s', e, h2, h3, h4⟩ := (next_ok (ns := ns) (r := r) (s := s) hi h0 h1).ex
  refine ⟨v.toNat, _, ?_, by omega, i', r', s', h4, rfl⟩
  have ev : ((v.toNat : Nat) : Int) = v := by omega
  rw [ev]
  exact e
theorem ph_kind (n : Nat) : Φ (n + 1) .f__law_kind = runF 8 (B__law_kind (Φ n)) := rfl
theorem rows_at {rs : List Row} {v : Nat} (hv : v < rs.length) (μ : Mem) : fIxA (.lst (rs.map rowD)) (.int v) μ = .ok (rowD rs[v]) μ := by
  simp [fIxA, dicOf, fIx, aseq, lseq, atD, hv]
theorem kind_tail {rs hs : List Row} {ns : List Int} (R : RowsOk rs) (hsub : ∀ r ∈ hs, r ∈ rs) (h0 : 0 < hs.length) (h4 : hs.length ≤ 4) {j : Nat} {m : Int} {F G : FN} {μ : Mem} (hG : ∀ (μ : Mem), Tape ns μ → ∀ many : Int, 0 < many → many < 1073741824 → ∃ (v : Nat) (μ' : Mem), G [.ptr 0, .int many] μ = .ok (.int v) μ' ∧ (v : Int) < many ∧ Tape ns μ')
    (hF : (∀ r ∈ hs, r.2 = 0) ∨ ∀ μ, Tape ns μ → ∃ d μ', F [.ptr 0, rowsD rs, .int (m - 1)] μ = .ok d μ' ∧ KD rs j d ∧ Tape ns μ') (ht : Tape ns μ) :
    ∃ nm l μ', RS.bind (sAsg [] (.tp [4, 5]) (mOp fIxA (mVar 3) (mFn G 2 [] (aCons (mVar 0) (aCons (mCall fLen (aCons (mVar 3) aNil)) aNil)))) [some (.ptr 0), some (rowsD rs), some (.int m), some (.lst (hs.map rowD)), none, none, none, none] μ)
        (sRet (mTup (aCons (mVar 4) (aCons (mCall fTuple' (aCons (mLc (iRange1 (aCons (mVar 5) aNil)) (.nm 7) [7] bTrue (mFn F 3 [] (aCons (mVar 0) (aCons (mVar 1) (aCons (mOp fSub (mVar 2) (mC (D.int 1))) aNil))))) aNil)) aNil))))
      = .rt (.tup [.str nm, .tup l]) μ' ∧ (nm, l.length) ∈ hs ∧ (∀ e ∈ l, KD rs j e) ∧ Tape ns μ' := by
  obtain ⟨w, μ2, e2, l2, t2⟩ := hG μ ht hs.length (by omega) (by omega)
  have hw : w < hs.length := by omega
  have hr := rows_at hw μ2
  have hm := List.getElem_mem hw
  generalize hs[w] = rw at hr hm
  obtain ⟨nm, k⟩ := rw
  obtain ⟨_, k2, _, _, _⟩ := R.name (hsub _ hm)
  have lc : ∃ es μ', lcLoop (.nm 7) bTrue (mFn F 3 [] (aCons (mVar 0) (aCons (mVar 1) (aCons (mOp fSub (mVar 2) (mC (D.int 1))) aNil)))) [some (.ptr 0), some (rowsD rs), some (.int m), some (.lst (hs.map rowD)), some (.str nm), some (.int k), none, none] ((List.range k).map fun i => .int (0 + (i : Nat))) [] μ2 = .ok (.lst ([] ++ es)) μ' ∧ Tape ns μ' ∧ All2 (fun _ e => KD rs j e) ((List.range k).map fun i => D.int (0 + (i : Nat))) es := by
    refine lc_inv (Tape ns) (fun _ e => KD rs j e) _ [] μ2 (by simp; omega) t2 fun d hd μ hμ => ?_
    rcases hF with hF | hF
    · have : k = 0 := hF _ hm
      subst this
      simp at hd
    · obtain ⟨e, μ', q1, q2, q3⟩ := hF μ hμ
      exact ⟨_, e, μ', rfl, by simp [q1], q3, q2⟩
  obtain ⟨es, μ', q1, q2, q3⟩ := lc
  have hl : es.length = k := by
    have := q3.len
    simpa using this
  have hk : ∀ e ∈ es, KD rs j e := fun e he => All2.right (Q := KD rs j) (fun _ _ h => h) q3 e he
  refine ⟨nm, es, μ', ?_, by rw [hl]; exact hm, hk, q2⟩
  have nl : noLs es = true := noLs_of fun e he => KD.noL j e (hk e he)
  simp only [List.nil_append] at q1
  have hk3 := rng1_nat (n := k) (by omega)
  have tt : ∀ μ, fTuple' [.lst es] μ = .ok (.tup es) μ := fun μ => rfl
  simp [-xk_rng1, -Int.zero_add, len_lst, e2, hr, rowD, tgOk, tgIn, bindT, setL, hk3, wipeD, q1, tt, noL, noLs, nl]
theorem kind_ok {rs : List Row} (R : RowsOk rs) {ns : List Int} : ∀ (m n : Nat) (μ : Mem), Tape ns μ → ∃ d μ', Φ (n + m + 2) .f__law_kind [.ptr 0, rowsD rs, .int m] μ = .ok d μ' ∧ KD rs m d ∧ Tape ns μ' := by
  intro m
  induction m with
  | zero =>
    intro n μ ht
    rw [show n + 0 + 2 = (n + 1) + 1 from rfl, ph_kind, run_is]
    obtain ⟨v, μ1, e1, l1, t1⟩ := next_tape ht n (many := 3) (by decide) (by decide)
    by_cases hv : v = 0
    · obtain ⟨w, μ2, e2, l2, t2⟩ := next_tape t1 n (many := 3) (by decide) (by decide)
      obtain ⟨c, ei, hc⟩ : ∃ c : Str, fIxA (.str "abc") (.int w) μ2 = .ok (.str c) μ2 ∧ (c = "a" ∨ c = "b" ∨ c = "c") := by
        have hw : w = 0 ∨ w = 1 ∨ w = 2 := by omega
        rcases hw with rfl | rfl | rfl
        · exact ⟨"a", rfl, .inl rfl⟩
        · exact ⟨"b", rfl, .inr (.inl rfl)⟩
        · exact ⟨"c", rfl, .inr (.inr rfl)⟩
      refine ⟨.tup [.str "?", .str c], μ2, by simp [B__law_kind, startD, e1, hv, e2, ei, noL, noLs], .inl ?_, t2⟩
      rcases hc with rfl | rfl | rfl
      · exact .inl rfl
      · exact .inr (.inl rfl)
      · exact .inr (.inr rfl)
    · have hh : ∃ hs : List Row, (∀ r ∈ hs, r ∈ rs) ∧ 0 < hs.length ∧ hs.length ≤ 4 ∧ (∀ r ∈ hs, r.2 = 0) ∧ lcLoop (.nm 6) (mTst (mOp fEq (mOp fIxA (mVar 6) (mC (D.int 1))) (mC (D.int 0)))) (mVar 6) [some (.ptr 0), some (rowsD rs), some (.int 0), none, none, none, none, none] (rs.map rowD) [] μ1 = .ok (.lst (hs.map rowD)) μ1 := by
        refine ⟨rs.filter fun r => r.2 == 0, fun r hr => (List.mem_filter.mp hr).1, by cases R <;> decide, by cases R <;> decide, fun r hr => by simpa using (List.mem_filter.mp hr).2, ?_⟩
        cases R <;> rfl
      obtain ⟨hs, q1, q2, q3, q4, q5⟩ := hh
      obtain ⟨nm, l, μ', r1, r2, r3, r4⟩ := kind_tail (F := Φ (n + 1) .f__law_kind) (G := Φ (n + 1) .f__law_next) (m := 0) (j := 0) R q1 q2 q3 (fun μ h many a b => next_tape h n a b) (.inl q4) t1
      have l0 : l.length = 0 := q4 _ r2
      have l1 : l = [] := List.length_eq_zero_iff.mp l0
      subst l1
      refine ⟨.tup [.str nm, .tup []], μ', ?_, .inr ⟨nm, q1 _ r2, rfl⟩, r4⟩
      rw [show ((0 : Nat) : Int) = 0 from rfl]
      have it : itemsD (rowsD rs) = some (rs.map rowD) := rfl
      simp [-x_asg, B__law_kind, startD, e1, hv, FP.xk_of, it, wipeD, q5, r1]
  | succ m ih =>
    intro n μ ht
    rw [show n + (m + 1) + 2 = (n + m + 2) + 1 from by omega, ph_kind, run_is]
    obtain ⟨v, μ1, e1, l1, t1⟩ := next_tape ht (n + m + 1) (many := 3) (by decide) (by decide)
    by_cases hv : v = 0
    · obtain ⟨w, μ2, e2, l2, t2⟩ := next_tape t1 (n + m + 1) (many := 3) (by decide) (by decide)
      obtain ⟨c, ei, hc⟩ : ∃ c : Str, fIxA (.str "abc") (.int w) μ2 = .ok (.str c) μ2 ∧ (c = "a" ∨ c = "b" ∨ c = "c") := by
        have hw : w = 0 ∨ w = 1 ∨ w = 2 := by omega
        rcases hw with rfl | rfl | rfl
        · exact ⟨"a", rfl, .inl rfl⟩
        · exact ⟨"b", rfl, .inr (.inl rfl)⟩
        · exact ⟨"c", rfl, .inr (.inr rfl)⟩
      refine ⟨.tup [.str "?", .str c], μ2, by simp [B__law_kind, startD, e1, hv, e2, ei, noL, noLs], .inl ?_, t2⟩
      rcases hc with rfl | rfl | rfl
      · exact .inl rfl
      · exact .inr (.inl rfl)
      · exact .inr (.inr rfl)
    · have hm0 : ¬ ((m + 1 : Nat) : Int) = 0 := by omega
      obtain ⟨nm, l, μ', r1, r2, r3, r4⟩ := kind_tail (hs := rs) (F := Φ (n + m + 2) .f__law_kind) (G := Φ (n + m + 2) .f__law_next) (m := ((m + 1 : Nat) : Int)) (j := m) R (fun _ h => h) (by cases R <;> decide) (by cases R <;> decide) (fun μ h many a b => next_tape h (n + m + 1) a b) (.inr fun μ h => by
        have := ih n μ h
        rw [show ((m + 1 : Nat) : Int) - 1 = m from by omega]
        exact this) t1
      refine ⟨.tup [.str nm, .tup l], μ', ?_, .inr ⟨nm, l, r2, rfl, r3⟩, r4⟩
      have fl : ∀ μ, fList [rowsD rs] μ = .ok (.lst (rs.map rowD)) μ := fun μ => rfl
      generalize ((m + 1 : Nat) : Int) = mi at r1 hm0 ⊢
      simp [-x_asg, B__law_kind, startD, e1, hv, hm0, fl, r1]
end Law
end FP
namespace FP
namespace Law
open PySem PySem.Spec L2 PySem.W
open PyProof.Rows hiding St
theorem same_S : ∀ n, (fun n => Φ n .f__law_same) (n + 1) = runF 3 (B_same ((fun n => Φ n .f__law_same) n)) := fun _ => rfl
theorem same_phi (n : Nat) (d : D) (μ : Mem) (h : nice d = true) (h2 : dep d ≤ n) : Φ (n + 1) .f__law_same [d, d] μ = .ok (.bl true) μ := same_ok (S := fun n => Φ n .f__law_same) same_S n d μ h h2
/-- 'fn' around 'num', k times -/
def deepD : Nat → D
  | 0 => .tup [.str "num", .tup []]
  | k + 1 => .tup [.str "fn", .tup [deepD k, .tup [.str "?", .str "a"]]]
theorem deep_is {rs : List Row} (R : RowsOk rs) (v : Nat) (hv : v < 7) (μ : Mem) : Φ 29 .f_is_kind [rowsD rs, deepD v, .int 1] μ = .ok (.bl (decide (v ≤ 4))) μ := by
  have : v = 0 ∨ v = 1 ∨ v = 2 ∨ v = 3 ∨ v = 4 ∨ v = 5 ∨ v = 6 := by omega
  rcases this with rfl | rfl | rfl | rfl | rfl | rfl | rfl <;> cases R <;> rfl
def odds : List D := [.non, .str "num", .tup [.str "num"], .tup [.str "num", .lst []], .tup [.str "num", .tup [.tup [.str "num", .tup []]]], .tup [.str "fn", .tup [.tup [.str "num", .tup []]]],
  .tup [.str "?", .str "ab"], .tup [.str "?", .str ""], .tup [.str "?", .str "A"], .tup [.str "?", .int 1], .tup [.str "zz", .tup []], .lst [.str "num", .tup []], .tup [.int 1, .tup []], .tup [.str "fn", .tup [.tup [.str "num", .tup []], .non]]]
theorem odd_is {rs : List Row} (R : RowsOk rs) (μ : Mem) : ∀ d ∈ odds, Φ 29 .f_is_kind [rowsD rs, d, .int 1] μ = .ok (.bl false) μ := by
  intro d hd
  simp only [odds, List.mem_cons, List.not_mem_nil, or_false] at hd
  rcases hd with rfl | rfl | rfl | rfl | rfl | rfl | rfl | rfl | rfl | rfl | rfl | rfl | rfl | rfl <;> cases R <;> rfl
theorem slice_is (v : Nat) (hv : v < 3) (μ : Mem) : ∃ rs, RowsOk rs ∧ fSlP (.ptu [.tup [.str "num", .int 0], .tup [.str "fn", .int 2], .tup [.str "list", .int 1], .tup [.str "bool", .int 0]]) none (some (2 + (v : Int))) μ = .ok (rowsD rs) μ := by
  have : v = 0 ∨ v = 1 ∨ v = 2 := by omega
  rcases this with rfl | rfl | rfl
  · exact ⟨_, .two, rfl⟩
  · exact ⟨_, .three, rfl⟩
  · exact ⟨_, .four, rfl⟩
theorem ph_law : Φ 30 .f_law = runF 9 (B_law (Φ 29)) := rfl
theorem ints_noL : ∀ ns : List Int, noLs (ns.map D.int) = true
  | [] => rfl
  | _ :: ns => by simp [noLs, noL, ints_noL ns]
theorem law_true (ns : List Int) (h63 : ns.length ≤ 63) : ∃ μ, Φ 30 .f_law [.fro (ns.map .int)] [] = .ok (.bl true) μ := by
  rw [ph_law, run_is]
  have t0 : Tape ns (tp (ns.map .int) 0 0 4) := ⟨0, 0, 4, Int.le_refl _, rfl⟩
  obtain ⟨v, μ1, e1, l1, t1⟩ := next_tape t0 28 (many := 3) (by decide) (by decide)
  obtain ⟨rs, R, e2⟩ := slice_is v (by omega) μ1
  obtain ⟨d, μ2, e3, kd, t2⟩ := kind_ok R 3 24 μ1 t1
  have i1 := is_kind_ok R 3 d kd 1 23 μ2 (by decide)
  obtain ⟨ls, q1, q2, q3⟩ := (letters_ok R 3 d kd).2 (by decide)
  obtain ⟨t, q4, q5⟩ := text_ok R 3 d kd (by decide)
  have q3 := q3 25 μ2
  have q5 := q5 25 μ2
  have nd := KD.noL 3 d kd
  have sm1 : Φ 29 .f__law_same [.lst [.bl true, .tup (ls.map .str), .str t], .lst [.bl true, .tup (ls.map .str), .str t]] μ2 = .ok (.bl true) μ2 := by
    have ns : ∀ l : List Str, nices (l.map .str) = true ∧ deps (l.map .str) = 0 := by
      intro l
      induction l with
      | nil => exact ⟨rfl, rfl⟩
      | cons a l ih => exact ⟨by simp [nices, nice, ih.1], by simp [deps, dep, ih.2]⟩
    refine same_phi 28 _ _ ?_ ?_
    · have : ls.length ≤ 10000000 := by omega
      simp [nice, nices, (ns ls).1, this]
    · simp [dep, deps, (ns ls).2]
  obtain ⟨w, μ3, e4, l4, t3⟩ := next_tape t2 28 (many := 7) (by decide) (by decide)
  have dp := deep_is R w (by omega) μ3
  obtain ⟨η', μ', e5, hp⟩ := for_inv (g := .nm 4) (body := (sSet [] 6 (mTup (aCons (mC (D.str "fn")) (aCons (mTup (aCons (mVar 6) (aCons (mTup (aCons (mC (D.str "?")) (aCons (mC (D.str "a")) aNil))) aNil))) aNil)))))
    (fun done η μ' => μ' = μ3 ∧ ∃ o, η = [some (.fro (ns.map .int)), some (.ptr 0), some (rowsD rs), some d, o, none, some (deepD done.length), some (.int w), none])
    ((List.range w).map fun i => D.int (0 + (i : Nat))) [] [some (.fro (ns.map .int)), some (.ptr 0), some (rowsD rs), some d, none, none, some (deepD 0), some (.int w), none] μ3 ⟨rfl, none, rfl⟩
    (fun dn x rest he η μ1 hp => by
      obtain ⟨rfl, o, rfl⟩ := hp
      exact ⟨_, _, _, rfl, by simp; rfl, rfl, some x, by simp [deepD]⟩)
  obtain ⟨rfl, o, rfl⟩ := hp
  simp only [List.nil_append, List.length_map, List.length_range] at e5
  have lc1 : lcLoop (.nm 8) bTrue (mFn (Φ 29 .f_is_kind) 3 [D.int 1] (aCons (mVar 2) (aCons (mVar 8) aNil))) [some (.fro (ns.map .int)), some (.ptr 0), some (rowsD rs), some d, o, some (.lst odds), some (deepD w), some (.int w), none] odds [] μ' = .ok (.lst (odds.map fun _ => .bl false)) μ' := by
    refine lc_map (fun _ => .bl false) odds [] (by decide) fun x hx => ⟨_, rfl, ?_⟩
    have := odd_is R μ' x hx
    simp [this]
  have sm2 : Φ 29 .f__law_same [.lst [.lst (odds.map fun _ => .bl false), .int 5], .lst [.lst (odds.map fun _ => .bl false), .int 5]] μ' = .ok (.bl true) μ' := same_phi 28 _ _ (by decide) (by decide)
  have rng := rng1_nat (n := w) (by omega) μ'
  have d0 : deepD 0 = .tup [.str "num", .tup []] := rfl
  rw [d0] at e5
  have p0 : ns.length ≤ 10000000 := by omega
  have ls0 : fList [.fro (ns.map .int)] [] = .ok (.lst (ns.map .int)) [] := rfl
  have mem0 : ([] : Mem) ++ [Cell.lst [.lst (ns.map D.int), .int 0, .int 0, .int 4]] = tp (ns.map .int) 0 0 4 := rfl
  have md : ∀ μ, fMulA (.lst [.bl false]) (.int 14) μ = .ok (.lst (odds.map fun _ => .bl false)) μ := fun μ => rfl
  have ft : ∀ μ, fTuple' [.lst (ls.map .str)] μ = .ok (.tup (ls.map .str)) μ := fun μ => rfl
  have e1 : Φ 29 .f__law_next [.ptr 0, .int 3] (tp (ns.map .int) 0 0 4) = .ok (.int v) μ1 := e1
  have e3 : Φ 29 .f__law_kind [.ptr 0, rowsD rs, .int 3] μ1 = .ok d μ2 := e3
  have i1 : Φ 29 .f_is_kind [rowsD rs, d, .int 1] μ2 = .ok (.bl true) μ2 := i1
  have a1 : Φ 29 .f_letters_of [d] μ2 = .ok (.tup (ls.map .str)) μ2 := q3.1
  have a2 : Φ 29 .f__law_letters [d] μ2 = .ok (.lst (ls.map .str)) μ2 := q3.2
  have a3 : Φ 29 .f_kind_text [d] μ2 = .ok (.str t) μ2 := q5.1
  have a4 : Φ 29 .f__law_text [d] μ2 = .ok (.str t) μ2 := q5.2
  have e4 : Φ 29 .f__law_next [.ptr 0, .int 7] μ2 = .ok (.int w) μ' := e4
  have ad : ∀ μ, fAdd (.lst [.non, .str "num", .tup [.str "num"], .tup [.str "num", .lst []], .tup [.str "num", .tup [.tup [.str "num", .tup []]]], .tup [.str "fn", .tup [.tup [.str "num", .tup []]]]])
    (.lst [.tup [.str "?", .str "ab"], .tup [.str "?", .str ""], .tup [.str "?", .str "A"], .tup [.str "?", .int 1], .tup [.str "zz", .tup []], .lst [.str "num", .tup []], .tup [.int 1, .tup []], .tup [.str "fn", .tup [.tup [.str "num", .tup []], .non]]]) μ = .ok (.lst odds) μ := fun μ => rfl
  have cw : decide ((w : Int) ≤ 4) = decide (w ≤ 4) := by
    by_cases h : w ≤ 4
    · rw [decide_eq_true h, decide_eq_true (by omega)]
    · rw [decide_eq_false h, decide_eq_false (by omega)]
  refine ⟨μ', ?_⟩
  simp [-xk_rng1, -Int.zero_add, B_law, startD, ls0, retOk, ints_noL, noL, noLs, mem0, e1, e2, e3, i1, a1, a2, a3, a4, ft, sm1, e4, rng, tgOk, tgIn, e5, dp, cw, ad, FP.xk_of, itemsD, wipeD, lc1, md, sm2]
end Law
end FP
open PySem PySem.W PyProof.Rows
set_option maxRecDepth 100000 in
set_option maxHeartbeats 0 in
theorem PySem.Challenge.cw_onetongue_k04_whole_kinds_holds : PySem.Challenge.rw_onetongue_k04_whole_kinds.Holds := by
  w_on; o_law; k_head; (case hw => w_witness2)
  k_fill
  refine FP.walkL (l := PySem.Challenge.rw_onetongue_k04_whole_kinds) (k := 30) rfl rfl ⟨rfl, by decide, by decide⟩ (fun w h Y => PySem.W.kIn_of Y) ?F
  case F =>
    intro w mg fa h KX G hmg
    suffices hs : ∃ (ad : FP.Law.Fn → Addr) (fd : FP.Law.Fn → FuncData), FP.Law.Tab _ mg ad fd ∧ ad .f_law = fa ∧ ∀ (s : Shared) (u : Value), BindsTo s (fd .f_law) ⟨[u], []⟩ [("script", u)] by
      obtain ⟨ad, fd, T, e, hb⟩ := hs
      subst e
      exact ⟨fd .f_law, hb, fun base _ _ => FP.Law.law_ok T FP.Law.law_true⟩
    refine' FP.Law.tab_mk KX G hmg ?a1 ?l1 ?c1 ?k1 ?a2 ?l2 ?c2 ?k2 ?t2 ?a3 ?l3 ?c3 ?k3 ?a4 ?l4 ?c4 ?k4 ?a5 ?l5 ?c5 ?k5 ?a6 ?l6 ?c6 ?k6 ?a7 ?l7 ?c7 ?k7 ?a8 ?l8 ?c8 ?k8 ?a9 ?l9 ?c9 ?k9 ?a10 ?l10 ?c10 ?k10 ?z1 ?z2 ?z3 ?z4 ?z5 ?z6 ?z7 ?z8 ?z9 ?z10 ?z11 ?g1
    (case a1 => k_is)
    (case l1 => k_is)
    (case c1 => k_is)
    (case k1 => k_is)
    (case a2 => k_is)
    (case l2 => k_is)
    (case c2 => k_is)
    (case k2 => k_is)
    (case t2 => k_is)
    (case a3 => k_is)
    (case l3 => k_is)
    (case c3 => k_is)
    (case k3 => k_is)
    (case a4 => k_is)
    (case l4 => k_is)
    (case c4 => k_is)
    (case k4 => k_is)
    (case a5 => k_is)
    (case l5 => k_is)
    (case c5 => k_is)
    (case k5 => k_is)
    (case a6 => k_is)
    (case l6 => k_is)
    (case c6 => k_is)
    (case k6 => k_is)
    (case a7 => k_is)
    (case l7 => k_is)
    (case c7 => k_is)
    (case k7 => k_is)
    (case a8 => k_is)
    (case l8 => k_is)
    (case c8 => k_is)
    (case k8 => k_is)
    (case a9 => k_is)
    (case l9 => k_is)
    (case c9 => k_is)
    (case k9 => k_is)
    (case a10 => k_is)
    (case l10 => k_is)
    (case c10 => k_is)
    (case k10 => k_is)
    (case z1 => k_is)
    (case z2 => k_is)
    (case z3 => k_is)
    (case z4 => k_is)
    (case z5 => k_is)
    (case z6 => k_is)
    (case z7 => k_is)
    (case z8 => k_is)
    (case z9 => k_is)
    (case z10 => k_is)
    (case z11 => k_is)
    (case g1 => k_is)
#print axioms PySem.Challenge.cw_onetongue_k04_whole_kinds_holds
