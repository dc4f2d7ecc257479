import PyProof.Rows.All
import Wide.All
import OpenK.AllK
import Wide.FinOn
import HandS.ForMost
import HandS.Conv
import HandS.Walk
import HandS.WideBits
import HandS.IsInst
import PyProof.ListStr
import PyProof.Rows.SetFrom
import HandS.Set
import HandS.SetFor
import HandS.Strs
import HandS.More
import KE.KDictZip
import KE.GoesZip
import KE.GoesMore
import HandS.Style
import HandS.SortRule
import HandS.Defaults
import HandS.SortOrd
import HandS.MakeKwOnly
import PyProof.ReprRoads
import PyProof.CallFns
import HandS.WordsDict
import HandS.Dict
import KE.DatumOrd
import HandS.StrMore
import HandS.NoneIn
import KE.KDictKeyed
import KE.KDictPairs
import HandS.TupLen
import KE.KStrOpen
import PyProof.CollectStr
import HandS.ExcValue
import PyProof.StrLawsRepr
import PyProof.Rows.RegStrFacts
import PySem.Challenge.RW_crosslines_k10_whole_bunches
set_option Elab.async false
set_option linter.all false
set_option maxRecDepth 100000
set_option maxHeartbeats 8000000
/-! Wk1: a big-step layer over the readings: typed slots, owned objects, outcomes. -/
namespace Wk
open PySem L2

/-! ### values of plain data in a heap -/
class Rep (α : Type) where
  rep : Hp → V → α → Prop
  mono : ∀ {F F' : Hp} {v : V} {a : α}, Same F F' → rep F v a → rep F' v a

/-- a text by its codes -/
abbrev Txt := List Nat
def tx (l : Txt) : Str := ⟨l.toArray⟩
theorem tx_len (l : Txt) : (tx l).length = l.length := by simp [tx, Str.length]
theorem tx_cps (l : Txt) : (tx l).cps.toList = l := by simp [tx]
theorem tx_inj {a b : Txt} (h : tx a = tx b) : a = b := by
  have := congrArg (fun s => s.cps.toList) h
  simpa [tx] using this
theorem tx_app (a b : Txt) : tx a ++ tx b = tx (a ++ b) := by
  show Str.append (tx a) (tx b) = _
  simp [Str.append, tx]
theorem tx_of (s : Str) : s = tx s.cps.toList := by
  cases s
  simp [tx]

/-- a type whose values need no object -/
class Flat (α : Type) where
  toV : α → V
  inj : ∀ {a b : α}, toV a = toV b → a = b

instance (priority := low) flatRep {α : Type} [Flat α] : Rep α where
  rep := fun _ v a => v = Flat.toV a
  mono := fun _ h => h

instance : Flat Int := ⟨V.int, fun h => by injection h⟩
instance : Flat Bool := ⟨V.bl, fun h => by injection h⟩
instance : Flat Txt := ⟨fun l => V.str (tx l), fun h => by injection h with h; exact tx_inj h⟩
instance : Flat Unit := ⟨fun _ => V.non, fun _ => rfl⟩

def Reps {α : Type} [Rep α] (F : Hp) : List V → List α → Prop
  | [], [] => True
  | v :: vs, a :: as => Rep.rep F v a ∧ Reps F vs as
  | _, _ => False

section
variable {α β : Type} [Rep α] [Rep β] {F F' : Hp}
theorem Reps.mono (e : Same F F') : ∀ {vs : List V} {as : List α}, Reps F vs as → Reps F' vs as
  | [], [], _ => trivial
  | _ :: _, _ :: _, h => ⟨Rep.mono e h.1, Reps.mono e h.2⟩
theorem Reps.len : ∀ {vs : List V} {as : List α}, Reps F vs as → vs.length = as.length
  | [], [], _ => rfl
  | _ :: _, _ :: _, h => by simp [Reps.len h.2]
theorem Reps.get : ∀ {vs : List V} {as : List α} {i : Nat} {a : α}, Reps F vs as → as[i]? = some a → ∃ v, vs[i]? = some v ∧ Rep.rep F v a
  | [], [], _, _, _, h => by simp at h
  | v :: _, a :: _, 0, _, h, e => ⟨v, by simp, by simp at e; subst e; exact h.1⟩
  | _ :: _, _ :: _, i + 1, _, h, e => by
    obtain ⟨v, h1, h2⟩ := Reps.get (i := i) h.2 (by simpa using e)
    exact ⟨v, by simpa using h1, h2⟩
theorem Reps.get' : ∀ {vs : List V} {as : List α} {i : Nat} {v : V}, Reps F vs as → vs[i]? = some v → ∃ a, as[i]? = some a ∧ Rep.rep F v a
  | [], [], _, _, _, h => by simp at h
  | v :: _, a :: _, 0, _, h, e => ⟨a, by simp, by simp at e; subst e; exact h.1⟩
  | _ :: _, _ :: _, i + 1, _, h, e => by
    obtain ⟨v, h1, h2⟩ := Reps.get' (i := i) h.2 (by simpa using e)
    exact ⟨v, by simpa using h1, h2⟩
theorem Reps.app : ∀ {vs ws : List V} {as bs : List α}, Reps F vs as → Reps F ws bs → Reps F (vs ++ ws) (as ++ bs)
  | [], _, [], _, _, h => h
  | _ :: _, _, _ :: _, _, h, h' => ⟨h.1, Reps.app h.2 h'⟩
theorem Reps.one {v : V} {a : α} (h : Rep.rep F v a) : Reps F [v] [a] := ⟨h, trivial⟩
theorem Reps.take : ∀ {vs : List V} {as : List α} (n : Nat), Reps F vs as → Reps F (vs.take n) (as.take n)
  | _, _, 0, _ => by simp [Reps]
  | [], [], _ + 1, _ => trivial
  | _ :: _, _ :: _, n + 1, h => ⟨h.1, Reps.take n h.2⟩
theorem Reps.drop : ∀ {vs : List V} {as : List α} (n : Nat), Reps F vs as → Reps F (vs.drop n) (as.drop n)
  | _, _, 0, h => h
  | [], [], _ + 1, _ => trivial
  | _ :: _, _ :: _, n + 1, h => Reps.drop n h.2
theorem Reps.rev : ∀ {vs : List V} {as : List α}, Reps F vs as → Reps F vs.reverse as.reverse
  | [], [], _ => trivial
  | v :: vs, a :: as, h => by
    rw [List.reverse_cons, List.reverse_cons]
    exact Reps.app (Reps.rev h.2) (Reps.one h.1)
theorem Reps.set : ∀ {vs : List V} {as : List α} {v : V} {a : α} (i : Nat), Reps F vs as → Rep.rep F v a → Reps F (vs.set i v) (as.set i a)
  | [], [], _, _, _, _, _ => trivial
  | _ :: _, _ :: _, _, _, 0, h, r => ⟨r, h.2⟩
  | _ :: _, _ :: _, _, _, i + 1, h, r => ⟨h.1, Reps.set i h.2 r⟩
theorem Reps.erase : ∀ {vs : List V} {as : List α} (i : Nat), Reps F vs as → Reps F (vs.eraseIdx i) (as.eraseIdx i)
  | [], [], _, _ => trivial
  | _ :: _, _ :: _, 0, h => h.2
  | _ :: _, _ :: _, i + 1, h => ⟨h.1, Reps.erase i h.2⟩
theorem Reps.rept {v : V} {a : α} (h : Rep.rep F v a) : ∀ n : Nat, Reps F (List.replicate n v) (List.replicate n a)
  | 0 => trivial
  | n + 1 => ⟨h, Reps.rept h n⟩
end
theorem Reps.flat {α : Type} [Flat α] {F : Hp} : ∀ {vs : List V} {as : List α}, Reps F vs as ↔ vs = as.map Flat.toV
  | [], [] => by simp [Reps]
  | [], _ :: _ => by simp [Reps]
  | _ :: _, [] => by simp [Reps]
  | v :: vs, a :: as => by
    show (v = Flat.toV a ∧ Reps F vs as) ↔ _
    rw [Reps.flat (vs := vs) (as := as)]
    simp

instance listRep {α : Type} [Rep α] : Rep (List α) where
  rep := fun F v as => ∃ p vs, v = .ref p ∧ F p = some (.lst vs) ∧ Reps F vs as
  mono := fun e ⟨p, vs, h1, h2, h3⟩ => ⟨p, vs, h1, e _ _ h2, h3.mono e⟩
/-- a tuple of things of one kind -/
structure Tup (α : Type) where
  xs : List α
instance tupRep {α : Type} [Rep α] : Rep (Tup α) where
  rep := fun F v as => ∃ p vs, v = .ref p ∧ F p = some (.tup vs) ∧ Reps F vs as.xs
  mono := fun e ⟨p, vs, h1, h2, h3⟩ => ⟨p, vs, h1, e _ _ h2, h3.mono e⟩
instance pairRep {α β : Type} [Rep α] [Rep β] : Rep (α × β) where
  rep := fun F v a => ∃ p x y, v = .ref p ∧ F p = some (.tup [x, y]) ∧ Rep.rep F x a.1 ∧ Rep.rep F y a.2
  mono := fun e ⟨p, x, y, h1, h2, h3, h4⟩ => ⟨p, x, y, h1, e _ _ h2, Rep.mono e h3, Rep.mono e h4⟩
/-- None or a value -/
instance optRep {α : Type} [Rep α] : Rep (Option α) where
  rep := fun F v a => match a with
    | none => v = .non
    | some x => v ≠ .non ∧ Rep.rep F v x
  mono := fun {F F' v a} e h => by
    cases a with
    | none => exact h
    | some x => exact ⟨h.1, Rep.mono e h.2⟩

/-! ### slots -/
structure Sv where
  (α : Type)
  (inst : Rep α)
  (a : α)
/-- what an owned object holds -/
structure Ct where
  A : Hp → HO → Prop
  mono : ∀ {F F' : Hp} {o : HO}, Same F F' → A F o → A F' o
def cl {α : Type} [Rep α] (xs : List α) : Ct := ⟨fun F o => ∃ vs, o = .lst vs ∧ Reps F vs xs, fun e ⟨vs, h1, h2⟩ => ⟨vs, h1, h2.mono e⟩⟩
inductive Slot where
  | no
  | val (s : Sv)
  | own (c : Ct)
  | par (p : Addr) (c : Ct)
def vl {α : Type} [r : Rep α] (a : α) : Slot := .val ⟨α, r, a⟩
abbrev ow {α : Type} [Rep α] (a : List α) : Slot := .own (cl a)
abbrev pr {α : Type} [Rep α] (p : Addr) (a : List α) : Slot := .par p (cl a)
def Slot.kd : Slot → Option (Option Addr)
  | .no => none
  | .val _ => none
  | .own _ => some none
  | .par p _ => some (some p)

/-- the owned addresses -/
def owns : St → List Slot → List Addr
  | o :: σ, .own _ :: sl => (match o with | some (.ref p) => [p] | _ => []) ++ owns σ sl
  | _ :: σ, .par p _ :: sl => p :: owns σ sl
  | _ :: σ, _ :: sl => owns σ sl
  | _, _ => []

def Hold (F H : Hp) (p : Addr) (c : Ct) : Prop := F p = none ∧ ∃ o, H p = some o ∧ c.A F o
def Slot.ok (F H : Hp) (o : Option V) : Slot → Prop
  | .no => True
  | .val s => ∃ v, o = some v ∧ s.inst.rep F v s.a
  | .own c => ∃ p, o = some (.ref p) ∧ Hold F H p c
  | .par p c => o = some (.ref p) ∧ Hold F H p c
def Slots (F H : Hp) : St → List Slot → Prop
  | [], [] => True
  | o :: σ, s :: sl => s.ok F H o ∧ Slots F H σ sl
  | _, _ => False
structure Reg (F H : Hp) (σ : St) (sl : List Slot) : Prop where
  sub : Same F H
  nd : (owns σ sl).Nodup
  ok : Slots F H σ sl

/-- a step: the frame grows by new objects, what is owned may change, all else stays -/
structure Stp (os : List Addr) (F H F' H' : Hp) : Prop where
  fr : Same F F'
  keep : ∀ b o, H b = some o → b ∉ os → H' b = some o
  dom : ∀ b, H b ≠ none → H' b ≠ none
  new : ∀ b, F' b ≠ none → F b ≠ none ∨ H b = none ∨ b ∈ os

theorem Stp.refl (os : List Addr) (F H : Hp) : Stp os F H F H := ⟨.refl F, fun _ _ h _ => h, fun _ h => h, fun _ h => .inl h⟩
theorem Stp.trans {os os' : List Addr} {F H F1 H1 F2 H2 : Hp} (a : Stp os F H F1 H1) (b : Stp os' F1 H1 F2 H2) (h : ∀ p ∈ os', p ∈ os ∨ H p = none) : Stp os F H F2 H2 where
  fr := a.fr.trans b.fr
  keep := fun c o e n => b.keep c o (a.keep c o e n) fun q => by
    rcases h c q with z | z
    · exact n z
    · rw [z] at e; cases e
  dom := fun c e => b.dom c (a.dom c e)
  new := fun c e => by
    rcases b.new c e with z | z | z
    · exact a.new c z
    · refine .inr (.inl ?_)
      cases q : H c with
      | none => rfl
      | some o => exact absurd z (a.dom c (by rw [q]; simp))
    · rcases h c z with y | y
      · exact .inr (.inr y)
      · exact .inr (.inl y)
theorem Stp.wk {os os' : List Addr} {F H F1 H1 : Hp} (a : Stp os F H F1 H1) (h : ∀ p ∈ os, p ∈ os' ∨ H p = none) : Stp os' F H F1 H1 :=
  (Stp.refl os' F H).trans a h
theorem Stp.free {os : List Addr} {F H F1 H1 : Hp} (a : Stp os F H F1 H1) {p : Addr} (h : H1 p = none) : H p = none := by
  cases q : H p with
  | none => rfl
  | some o => exact absurd h (a.dom p (by rw [q]; simp))

section
variable {F F' H H' : Hp} {σ : St} {sl sl' : List Slot}
theorem Slots.len : ∀ {σ : St} {sl : List Slot}, Slots F H σ sl → σ.length = sl.length
  | [], [], _ => rfl
  | _ :: _, _ :: _, h => by simp [Slots.len h.2]
/-- what is owned stands in H, not in F -/
theorem Slots.owned : ∀ {σ : St} {sl : List Slot}, Slots F H σ sl → ∀ p ∈ owns σ sl, F p = none ∧ H p ≠ none
  | [], [], _, p, hp => by simp [owns] at hp
  | o :: σ, s :: sl, h, p, hp => by
    cases s with
    | no => exact Slots.owned h.2 p hp
    | val s => exact Slots.owned h.2 p hp
    | own c =>
      obtain ⟨q, rfl, hq, o, ho, _⟩ := h.1
      rcases List.mem_append.mp hp with z | z
      · have : p = q := by simpa using z
        subst this
        exact ⟨hq, by rw [ho]; simp⟩
      · exact Slots.owned h.2 p z
    | par q c =>
      obtain ⟨_, hq, o, ho, _⟩ := h.1
      rcases List.mem_cons.mp hp with z | z
      · subst z
        exact ⟨hq, by rw [ho]; simp⟩
      · exact Slots.owned h.2 p z
/-- the owned addresses hang on the kinds alone -/
theorem owns_kd : ∀ {σ : St} {sl sl' : List Slot}, sl.map Slot.kd = sl'.map Slot.kd → owns σ sl = owns σ sl'
  | [], [], [], _ => rfl
  | [], _ :: _, [], h => by simp at h
  | [], [], _ :: _, h => by simp at h
  | [], _ :: _, _ :: _, _ => by simp [owns]
  | _ :: _, [], [], _ => rfl
  | _ :: _, _ :: _, [], h => by simp at h
  | _ :: _, [], _ :: _, h => by simp at h
  | o :: σ, s :: sl, s' :: sl', h => by
    simp only [List.map_cons, List.cons.injEq] at h
    have ih := owns_kd (σ := σ) h.2
    cases s <;> cases s' <;> simp [Slot.kd] at h <;> simp [owns, ih, h]
/-- the frame and what is not owned may change -/
theorem Slots.step (e : Same F F') : ∀ {σ : St} {sl : List Slot}, Slots F H σ sl → (∀ p ∈ owns σ sl, F' p = none ∧ H' p = H p) → Slots F' H' σ sl
  | [], [], _, _ => trivial
  | o :: σ, s :: sl, h, k => by
    cases s with
    | no => exact ⟨trivial, Slots.step e h.2 k⟩
    | val s =>
      obtain ⟨v, rfl, hv⟩ := h.1
      exact ⟨⟨v, rfl, s.inst.mono e hv⟩, Slots.step e h.2 k⟩
    | own c =>
      obtain ⟨q, rfl, hq, o, ho, ha⟩ := h.1
      have kq := k q (List.mem_append.mpr (.inl (by simp)))
      exact ⟨⟨q, rfl, kq.1, o, by rw [kq.2]; exact ho, c.mono e ha⟩, Slots.step e h.2 fun p hp => k p (List.mem_append.mpr (.inr hp))⟩
    | par q c =>
      obtain ⟨rfl, hq, o, ho, ha⟩ := h.1
      have kq := k q (List.mem_cons.mpr (.inl rfl))
      exact ⟨⟨rfl, kq.1, o, by rw [kq.2]; exact ho, c.mono e ha⟩, Slots.step e h.2 fun p hp => k p (List.mem_cons.mpr (.inr hp))⟩
theorem Reg.len (r : Reg F H σ sl) : σ.length = sl.length := Slots.len r.ok
/-- the frame grows by new things, the heap by others -/
theorem Reg.grow (r : Reg F H σ sl) (s : Stp [] F H F' H') (e : Same F' H') : Reg F' H' σ sl := by
  refine ⟨e, r.nd, Slots.step s.fr r.ok fun p hp => ?_⟩
  obtain ⟨h1, h2⟩ := Slots.owned r.ok p hp
  constructor
  · cases q : F' p with
    | none => rfl
    | some o =>
      rcases s.new p (by rw [q]; simp) with z | z | z
      · exact absurd h1 z
      · exact absurd z h2
      · simp at z
  · cases q : H p with
    | none => exact absurd q h2
    | some o => exact s.keep p o q (by simp)
/-- a new object beside -/
theorem same_new {p : Addr} {o : HO} (hp : H p = none) (e : Same F H) : Same F (upd H p o) := fun b u h => by
  rw [upd_ne (ne_of_none (e b u h) hp)]
  exact e b u h
theorem stp_new {os : List Addr} {p : Addr} {o : HO} (hp : H p = none) : Stp os F H F (upd H p o) where
  fr := .refl F
  keep := fun b u h _ => by rw [upd_ne (ne_of_none h hp)]; exact h
  dom := fun b h => by
    by_cases z : b = p
    · subst z; rw [upd_same]; simp
    · rw [upd_ne z]; exact h
  new := fun b h => .inl h
theorem Reg.new (r : Reg F H σ sl) {p : Addr} {o : HO} (hp : H p = none) : Reg F (upd H p o) σ sl := r.grow (stp_new hp) (same_new hp r.sub)
/-- a new object enters the frame -/
theorem stp_frz {os : List Addr} {F H F' H' : Hp} {p : Addr} {o : HO} (s : Stp os F H F' H') (hp : H p = none) (fp : F' p = none) : Stp os F H (upd F' p o) H' where
  fr := fun b u h => by rw [upd_ne (ne_of_none (s.fr b u h) fp)]; exact s.fr b u h
  keep := s.keep
  dom := s.dom
  new := fun b h => by
    by_cases z : b = p
    · subst z; exact .inr (.inl hp)
    · rw [upd_ne z] at h; exact s.new b h
theorem Reg.frz (r : Reg F H σ sl) {p : Addr} {o : HO} (fp : F p = none) (hp : H p = some o) (hn : p ∉ owns σ sl) : Reg (upd F p o) H σ sl := by
  refine ⟨fun b u h => ?_, r.nd, Slots.step (fun b u h => by rw [upd_ne (ne_of_none h fp)]; exact h) r.ok fun q hq => ⟨?_, rfl⟩⟩
  · by_cases z : b = p
    · subst z; rw [upd_same] at h; cases h; exact hp
    · rw [upd_ne z] at h; exact r.sub b u h
  · rw [upd_ne (fun z => hn (by rw [← z]; exact hq))]
    exact (Slots.owned r.ok q hq).1
end
end Wk

/-! Wk2: the judgements. -/
namespace Wk
open PySem L2

/-! ### own and par addresses -/
def ownO : St → List Slot → List Addr
  | o :: σ, .own _ :: sl => (match o with | some (.ref p) => [p] | _ => []) ++ ownO σ sl
  | _ :: σ, _ :: sl => ownO σ sl
  | _, _ => []
def parO : List Slot → List Addr
  | .par p _ :: sl => p :: parO sl
  | _ :: sl => parO sl
  | [] => []
theorem mem_owns : ∀ {σ : St} {sl : List Slot} {p : Addr}, p ∈ owns σ sl → p ∈ ownO σ sl ∨ p ∈ parO sl
  | [], [], p, h => by simp [owns] at h
  | [], _ :: _, p, h => by simp [owns] at h
  | _ :: _, [], p, h => by simp [owns] at h
  | o :: σ, s :: sl, p, h => by
    cases s with
    | no => exact mem_owns (σ := σ) h
    | val s => exact mem_owns (σ := σ) h
    | own c =>
      rcases List.mem_append.mp h with z | z
      · exact .inl (List.mem_append.mpr (.inl z))
      · rcases mem_owns (σ := σ) z with y | y
        · exact .inl (List.mem_append.mpr (.inr y))
        · exact .inr y
    | par q c =>
      rcases List.mem_cons.mp h with z | z
      · exact .inr (List.mem_cons.mpr (.inl z))
      · rcases mem_owns (σ := σ) z with y | y
        · exact .inl y
        · exact .inr (List.mem_cons.mpr (.inr y))
theorem ownO_owns : ∀ {σ : St} {sl : List Slot} {p : Addr}, p ∈ ownO σ sl → p ∈ owns σ sl
  | [], [], p, h => by simp [ownO] at h
  | [], _ :: _, p, h => by simp [ownO] at h
  | _ :: _, [], p, h => by simp [ownO] at h
  | o :: σ, s :: sl, p, h => by
    cases s with
    | no => exact ownO_owns (σ := σ) h
    | val s => exact ownO_owns (σ := σ) h
    | own c =>
      rcases List.mem_append.mp h with z | z
      · exact List.mem_append.mpr (.inl z)
      · exact List.mem_append.mpr (.inr (ownO_owns (σ := σ) z))
    | par q c => exact List.mem_cons.mpr (.inr (ownO_owns (σ := σ) h))
theorem ownO_kd : ∀ {σ : St} {sl sl' : List Slot}, sl.map Slot.kd = sl'.map Slot.kd → ownO σ sl = ownO σ sl'
  | [], [], [], _ => rfl
  | [], _ :: _, [], h => by simp at h
  | [], [], _ :: _, h => by simp at h
  | [], _ :: _, _ :: _, _ => by simp [ownO]
  | _ :: _, [], [], _ => rfl
  | _ :: _, _ :: _, [], h => by simp at h
  | _ :: _, [], _ :: _, h => by simp at h
  | o :: σ, s :: sl, s' :: sl', h => by
    simp only [List.map_cons, List.cons.injEq] at h
    have ih := ownO_kd (σ := σ) h.2
    cases s <;> cases s' <;> simp [Slot.kd] at h <;> simp [ownO, ih, h]
theorem parO_kd : ∀ {sl sl' : List Slot}, sl.map Slot.kd = sl'.map Slot.kd → parO sl = parO sl'
  | [], [], _ => rfl
  | _ :: _, [], h => by simp at h
  | [], _ :: _, h => by simp at h
  | s :: sl, s' :: sl', h => by
    simp only [List.map_cons, List.cons.injEq] at h
    have ih := parO_kd h.2
    cases s <;> cases s' <;> simp [Slot.kd] at h <;> simp [parO, ih, h]

/-- what is the same in all contexts of a family -/
structure Sit where
  (P : Program) (w : World) (K : PySem.W.Frag) (mg : Str → Option Value) (base : Heap) (N : List Str) (k : Nat)
/-- a family of contexts (a def's own, and the blocks of its comprehensions) -/
structure Fam {ι : Type} (X : ι → Cx) (S : Sit) : Prop where
  P : ∀ i, (X i).prog = S.P
  w : ∀ i, (X i).w = S.w
  K : ∀ i, (X i).K = S.K
  mg : ∀ i, (X i).mg = S.mg
  base : ∀ i, (X i).base = S.base
  N : ∀ i, (X i).N = S.N
  calm : ∀ i, (X i).calm = true
  room : ∀ i, Room S.k (X i).A
  xe : ∀ i, (X i).xe = fun _ _ => False
  nd : S.N.Nodup
  gd : ∀ i, (X i).A.guards = some []

/-! ### readings, evaluated -/
def Ev {α : Type} [Rep α] (te : TE) (sl sl' : List Slot) (a : α) : Prop :=
  sl.map Slot.kd = sl'.map Slot.kd ∧ ∀ σ F H, Reg F H σ sl → ∀ Q : VK, (∀ v F' H', Stp (owns σ sl) F H F' H' → Reg F' H' σ sl' → Rep.rep F' v a → Q v H') → te σ H Q
def EvN (te : TE) (sl sl' : List Slot) (c : Ct) : Prop :=
  sl.map Slot.kd = sl'.map Slot.kd ∧ ∀ σ F H, Reg F H σ sl → ∀ Q : VK, (∀ p F' H', Stp (owns σ sl) F H F' H' → Reg F' H' σ sl' → H p = none → Hold F' H' p c → Q (.ref p) H') → te σ H Q
def EvT (tt : TT) (sl sl' : List Slot) (b : Bool) : Prop :=
  sl.map Slot.kd = sl'.map Slot.kd ∧ ∀ σ F H, Reg F H σ sl → ∀ Q : Bool → Hp → Prop, (∀ F' H', Stp (owns σ sl) F H F' H' → Reg F' H' σ sl' → Q b H') → tt σ H Q
/-- what an argument is: a value; the object of a slot; a new object -/
inductive Arg where
  | v (q : Sv)
  | s (j : Nat)
  | n (c : Ct)
def va {α : Type} [r : Rep α] (a : α) : Arg := .v ⟨α, r, a⟩
def Arg.ok (σ : St) (H0 : Hp) (F H : Hp) (v : V) : Arg → Prop
  | .v q => q.inst.rep F v q.a
  | .s (j : Nat) => σ[j]? = some (some v)
  | .n (c : Ct) => ∃ p, v = .ref p ∧ H0 p = none ∧ Hold F H p c
def Args (σ : St) (H0 F H : Hp) : List V → List Arg → Prop
  | [], [] => True
  | v :: vs, a :: as => a.ok σ H0 F H v ∧ Args σ H0 F H vs as
  | _, _ => False
def EvA (ta : TA) (sl sl' : List Slot) (as : List Arg) : Prop :=
  sl.map Slot.kd = sl'.map Slot.kd ∧ ∀ σ F H, Reg F H σ sl → ∀ Q : List V → Hp → Prop, (∀ vs F' H', Stp (owns σ sl) F H F' H' → Reg F' H' σ sl' → Args σ H F' H' vs as → Q vs H') → ta σ H Q

section
variable {α β : Type} [Rep α] [Rep β] {sl sl1 sl2 : List Slot} {te tb : TE} {a : α} {b : β}
theorem Ev.kd (h : Ev te sl sl1 a) : sl.map Slot.kd = sl1.map Slot.kd := h.1
theorem hold_step {os : List Addr} {F H F' H' : Hp} {p : Addr} {c : Ct} (h : Hold F H p c) (s : Stp os F H F' H') (n : p ∉ os) : Hold F' H' p c := by
  obtain ⟨h1, o, h2, h3⟩ := h
  refine ⟨?_, o, s.keep p o h2 n, c.mono s.fr h3⟩
  cases q : F' p with
  | none => rfl
  | some u =>
    rcases s.new p (by rw [q]; simp) with z | z | z
    · exact absurd h1 z
    · rw [h2] at z; cases z
    · exact absurd z n
theorem fresh_owns {F H : Hp} {σ : St} (r : Reg F H σ sl) {p : Addr} (h : H p = none) : p ∉ owns σ sl := fun q => (Slots.owned r.ok p q).2 h
/-- a new list, taken as a value -/
theorem EvN.ev {xs : List α} (h : EvN te sl sl1 (cl xs)) : Ev te sl sl1 xs := by
  refine ⟨h.1, fun σ F H r Q q => h.2 σ F H r Q fun p F' H' s r' hp hh => ?_⟩
  obtain ⟨f, o, ho, vs, rfl, hr⟩ := hh
  have hn : p ∉ owns σ sl1 := by rw [← owns_kd h.1]; exact fresh_owns r hp
  refine q (.ref p) (upd F' p (.lst vs)) H' (stp_frz s hp f) (r'.frz f ho hn) ⟨p, vs, rfl, upd_same, hr.mono fun b u e => ?_⟩
  rw [upd_ne (ne_of_none e f)]
  exact e
/-- two, one after the other -/
theorem ev2 {σ : St} {F H : Hp} (ha : Ev te sl sl1 a) (hb : Ev tb sl1 sl2 b) (r : Reg F H σ sl) {k : V → V → Hp → Prop} (h : ∀ x y F' H', Stp (owns σ sl) F H F' H' → Reg F' H' σ sl2 → Rep.rep F' x a → Rep.rep F' y b → k x y H') :
    te σ H fun x H1 => tb σ H1 fun y H2 => k x y H2 := by
  refine ha.2 σ F H r _ fun x F1 H1 s1 r1 hx => hb.2 σ F1 H1 r1 _ fun y F2 H2 s2 r2 hy => h x y F2 H2 ?_ r2 (Rep.mono s2.fr hx) hy
  exact s1.trans s2 fun p hp => .inl (by rw [owns_kd ha.1]; exact hp)
theorem ev_op {γ : Type} [Rep γ] {c : γ} {r : R2} (ha : Ev te sl sl1 a) (hb : Ev tb sl1 sl2 b) (hr : ∀ F H x y, Same F H → Rep.rep F x a → Rep.rep F y b → ∀ Q : VK, (∀ v, Rep.rep F v c → Q v H) → r x y H Q) : Ev (tOp r te tb) sl sl2 c :=
  ⟨ha.1.trans hb.1, fun σ F H g Q q => ev2 ha hb g fun x y F' H' s g' hx hy => hr F' H' x y g'.sub hx hy Q fun v hv => q v F' H' s g' hv⟩
/-- a new object p is laid at the end -/
theorem new_end {σ : St} {F H F' H' : Hp} {c : Ct} {o : HO} {Q : VK} (q : ∀ p F2 H2, Stp (owns σ sl) F H F2 H2 → Reg F2 H2 σ sl1 → H p = none → Hold F2 H2 p c → Q (.ref p) H2)
    (s : Stp (owns σ sl) F H F' H') (r : Reg F' H' σ sl1) (hc : c.A F' o) (p : Addr) (hp : H' p = none) : Q (.ref p) (upd H' p o) := by
  refine q p F' (upd H' p o) (s.trans (stp_new (os := owns σ sl) hp) fun b hb => .inl hb) (r.new hp) (s.free hp) ⟨?_, o, upd_same, hc⟩
  cases z : F' p with
  | none => rfl
  | some u => rw [r.sub p u z] at hp; cases hp
end

/-! ### outcomes -/
inductive Out (ρ : Type) where
  | next (sl : List Slot)
  | ret (r : ρ) (sl : List Slot)
  | new (c : Ct) (sl : List Slot)
  | brk (sl : List Slot)
  | cont (sl : List Slot)

/-- what is owned behind: owned ahead, or new; what is lent stays lent -/
structure OwnOk (σ : St) (sl : List Slot) (H : Hp) (σ' : St) (sl' : List Slot) : Prop where
  own : ∀ p ∈ ownO σ' sl', p ∈ ownO σ sl ∨ H p = none
  par : ∀ p ∈ parO sl', p ∈ parO sl
def Meets {ρ : Type} [Rep ρ] (D : Ends) (σ : St) (sl : List Slot) (F H : Hp) : Out ρ → Prop
  | .next sl' => ∀ σ' F' H', Stp (owns σ sl) F H F' H' → Reg F' H' σ' sl' → OwnOk σ sl H σ' sl' → D.nx σ' H'
  | .ret a sl' => ∀ v σ' F' H', Stp (owns σ sl) F H F' H' → Reg F' H' σ' sl' → OwnOk σ sl H σ' sl' → Rep.rep F' v a → D.rt v H'
  | .new c sl' => ∀ p σ' F' H', Stp (owns σ sl) F H F' H' → Reg F' H' σ' sl' → OwnOk σ sl H σ' sl' → (p ∈ ownO σ sl ∨ H p = none) → p ∉ owns σ' sl' → Hold F' H' p c → D.rt (.ref p) H'
  | .brk sl' => ∀ σ' F' H', Stp (owns σ sl) F H F' H' → Reg F' H' σ' sl' → OwnOk σ sl H σ' sl' → D.bk σ' H'
  | .cont sl' => ∀ σ' F' H', Stp (owns σ sl) F H F' H' → Reg F' H' σ' sl' → OwnOk σ sl H σ' sl' → D.ct σ' H'
def Go {ρ : Type} [Rep ρ] (t : TS) (sl : List Slot) (r : Out ρ) : Prop :=
  ∀ σ F H D, Reg F H σ sl → Meets D σ sl F H r → t D σ H

theorem OwnOk.kd {H : Hp} {σ σ' : St} {sl sl' sl'' : List Slot} (h : OwnOk σ sl H σ' sl') (e : sl'.map Slot.kd = sl''.map Slot.kd) : OwnOk σ sl H σ' sl'' := by
  refine ⟨?_, ?_⟩
  · rw [← ownO_kd (σ := σ') e]; exact h.own
  · rw [← parO_kd e]; exact h.par
theorem OwnOk.refl (H : Hp) (σ : St) (sl : List Slot) : OwnOk σ sl H σ sl := ⟨fun _ h => .inl h, fun _ h => h⟩
theorem OwnOk.same {H : Hp} {σ : St} {sl sl' : List Slot} (e : sl.map Slot.kd = sl'.map Slot.kd) : OwnOk σ sl H σ sl' := (OwnOk.refl H σ sl).kd e
theorem par_owns {F H : Hp} {p : Addr} : ∀ {σ : St} {sl : List Slot}, Slots F H σ sl → p ∈ parO sl → p ∈ owns σ sl
  | [], [], _, h => by simp [parO] at h
  | o :: σ, s :: sl, hs, h => by
    cases s with
    | no => exact par_owns (σ := σ) (sl := sl) hs.2 h
    | val s => exact par_owns (σ := σ) (sl := sl) hs.2 h
    | own c => exact List.mem_append.mpr (.inr (par_owns (σ := σ) hs.2 h))
    | par q c =>
      rcases List.mem_cons.mp h with z | z
      · exact List.mem_cons.mpr (.inl z)
      · exact List.mem_cons.mpr (.inr (par_owns (σ := σ) hs.2 z))
theorem OwnOk.owns {F H H0 : Hp} {σ σ' : St} {sl sl' : List Slot} (h : OwnOk σ sl H σ' sl') (r : Reg F H0 σ sl) : ∀ p ∈ owns σ' sl', p ∈ owns σ sl ∨ H p = none := fun p hp => by
  rcases mem_owns hp with z | z
  · rcases h.own p z with y | y
    · exact .inl (ownO_owns y)
    · exact .inr y
  · exact .inl (par_owns r.ok (h.par p z))
theorem OwnOk.trans {F H F1 H1 : Hp} {σ σ1 σ2 : St} {sl sl1 sl2 : List Slot} (a : OwnOk σ sl H σ1 sl1) (b : OwnOk σ1 sl1 H1 σ2 sl2) (s : ∀ p, H1 p = none → H p = none) : OwnOk σ sl H σ2 sl2 :=
  ⟨fun p hp => by
    rcases b.own p hp with z | z
    · exact a.own p z
    · exact .inr (s p z), fun p hp => a.par p (b.par p hp)⟩
/-- what is met behind a step is met ahead of it -/
theorem Meets.step {ρ : Type} [Rep ρ] {D : Ends} {F H F1 H1 : Hp} {σ σ1 : St} {sl sl1 : List Slot} {r : Out ρ} (m : Meets D σ sl F H r) (g : Reg F H σ sl) (s : Stp (owns σ sl) F H F1 H1) (o : OwnOk σ sl H σ1 sl1) : Meets D σ1 sl1 F1 H1 r := by
  have T : ∀ {F' H' : Hp}, Stp (owns σ1 sl1) F1 H1 F' H' → Stp (owns σ sl) F H F' H' := fun t => s.trans t (o.owns g)
  have fr : ∀ p, H1 p = none → H p = none := fun p h => s.free h
  cases r with
  | next sl' => exact fun σ' F' H' t g' o' => m σ' F' H' (T t) g' (o.trans (F := F) (F1 := F1) o' fr)
  | ret a sl' => exact fun v σ' F' H' t g' o' => m v σ' F' H' (T t) g' (o.trans (F := F) (F1 := F1) o' fr)
  | new c sl' => exact fun p σ' F' H' t g' o' hp => m p σ' F' H' (T t) g' (o.trans (F := F) (F1 := F1) o' fr) (by
      rcases hp with z | z
      · exact o.own p z
      · exact .inr (fr p z))
  | brk sl' => exact fun σ' F' H' t g' o' => m σ' F' H' (T t) g' (o.trans (F := F) (F1 := F1) o' fr)
  | cont sl' => exact fun σ' F' H' t g' o' => m σ' F' H' (T t) g' (o.trans (F := F) (F1 := F1) o' fr)
/-- the ends that a next does not reach may be others -/
theorem Meets.nx {ρ : Type} [Rep ρ] {D : Ends} {N : St → Hp → Prop} {F H : Hp} {σ : St} {sl : List Slot} {r : Out ρ} (h : ∀ sl', r ≠ .next sl') (m : Meets D σ sl F H r) : Meets { D with nx := N } σ sl F H r := by
  cases r with
  | next sl' => exact absurd rfl (h sl')
  | ret a sl' => exact m
  | new c sl' => exact m
  | brk sl' => exact m
  | cont sl' => exact m
/-! ### sequences -/
section
variable {ρ : Type} [Rep ρ] {t u : TS} {sl sl1 : List Slot} {r : Out ρ}
theorem go_seq (h1 : Go t sl (.next sl1 : Out ρ)) (h2 : Go u sl1 r) : Go (tSeq t u) sl r := fun σ F H D g m =>
  h1 σ F H { D with nx := u D } g fun σ1 F1 H1 s g1 o => h2 σ1 F1 H1 D g1 (m.step g s o)
theorem go_nil : Go tNext sl (.next sl : Out ρ) := fun σ F H D g m => m σ F H (.refl _ _ _) g (.refl _ _ _)
theorem go_brk : Go tBreak sl (.brk sl : Out ρ) := fun σ F H D g m => m σ F H (.refl _ _ _) g (.refl _ _ _)
theorem go_cont : Go tCont sl (.cont sl : Out ρ) := fun σ F H D g m => m σ F H (.refl _ _ _) g (.refl _ _ _)
/-- the first ends otherwise than by next -/
theorem go_out (h1 : Go t sl r) (hn : ∀ sl', r ≠ .next sl') : Go (tSeq t u) sl r := fun σ F H D g m =>
  h1 σ F H { D with nx := u D } g (m.nx hn)
theorem go_ret {te : TE} {a : ρ} (h : Ev te sl sl1 a) : Go (tRet te) sl (.ret a sl1) := fun σ F H D g m =>
  h.2 σ F H g D.rt fun v F' H' s g' hv => m v σ F' H' s g' (.same h.1) hv
theorem go_retN {te : TE} {c : Ct} (h : EvN te sl sl1 c) : Go (tRet te) sl (.new c sl1 : Out ρ) := fun σ F H D g m =>
  h.2 σ F H g D.rt fun p F' H' s g' hp hh => m p σ F' H' s g' (.same h.1) (.inr hp) (by rw [← owns_kd h.1]; exact fresh_owns g hp) hh
theorem go_drop {α : Type} [Rep α] {te : TE} {a : α} (h : Ev te sl sl1 a) : Go (tDrop te) sl (.next sl1 : Out ρ) := fun σ F H D g m =>
  h.2 σ F H g _ fun v F' H' s g' hv => m σ F' H' s g' (.same h.1)
theorem go_if {c : TT} {b : Bool} (hc : EvT c sl sl1 b) (h1 : b = true → Go t sl1 r) (h2 : b = false → Go u sl1 r) : Go (tIfS c t u) sl r := fun σ F H D g m =>
  hc.2 σ F H g _ fun F' H' s g' => by
    have m' := m.step (σ1 := σ) (sl1 := sl1) g s (.same hc.1)
    cases b with
    | true => exact (if_pos rfl : (if true = true then t D σ H' else u D σ H') = _) ▸ h1 rfl σ F' H' D g' m'
    | false => exact (if_neg Bool.false_ne_true : (if false = true then t D σ H' else u D σ H') = _) ▸ h2 rfl σ F' H' D g' m'
end
end Wk

/-! Wk3: slots read and stored; the judgements over the text; names, stores, ifs, fors, comprehensions, calls. -/
namespace Wk
open PySem L2

def Slot.to (c : Ct) : Slot → Slot
  | .own _ => .own c
  | .par p _ => .par p c
  | q => q
theorem Slot.kd_to (c : Ct) (s : Slot) : (s.to c).kd = s.kd := by cases s <;> rfl
/-- the slot's object is c's, at p -/
def Slot.hold (o : Option V) (p : Addr) (c : Ct) : Slot → Prop
  | .own d => d = c ∧ o = some (.ref p)
  | .par q d => d = c ∧ q = p
  | _ => False

section
variable {F F' H H' : Hp}
theorem Slots.at : ∀ {σ : St} {sl : List Slot} {j : Nat} {s : Slot}, Slots F H σ sl → sl[j]? = some s → ∃ o, σ[j]? = some o ∧ s.ok F H o
  | [], [], _, _, _, h => by simp at h
  | o :: _, s :: _, 0, _, hs, h => ⟨o, by simp, by simp at h; subst h; exact hs.1⟩
  | _ :: σ, _ :: sl, j + 1, s, hs, h => by
    obtain ⟨o, h1, h2⟩ := Slots.at (σ := σ) (sl := sl) (j := j) (s := s) hs.2 (by simpa using h)
    exact ⟨o, by simpa using h1, h2⟩
theorem Slots.put {o : Option V} {s : Slot} (ho : s.ok F H o) : ∀ {σ : St} {sl : List Slot} (j : Nat), Slots F H σ sl → Slots F H (σ.set j o) (sl.set j s)
  | [], [], _, _ => trivial
  | _ :: _, _ :: _, 0, h => ⟨ho, h.2⟩
  | _ :: σ, _ :: sl, j + 1, h => ⟨h.1, Slots.put ho (σ := σ) (sl := sl) j h.2⟩
/-- a slot that owns nothing is stored -/
def Slot.lone : Slot → Prop
  | .no => True
  | .val _ => True
  | _ => False
theorem owns_put {o : Option V} {s : Slot} (hs : s.lone) : ∀ {σ : St} {sl : List Slot} (j : Nat), (owns (σ.set j o) (sl.set j s)).Sublist (owns σ sl)
  | [], [], _ => by simp [owns]
  | [], _ :: _, 0 => by simp [owns]
  | [], _ :: _, _ + 1 => by simp [owns]
  | _ :: _, [], 0 => by simp [owns]
  | _ :: _, [], _ + 1 => by simp [owns]
  | u :: σ, t :: sl, 0 => by
    have e : owns (o :: σ) (s :: sl) = owns σ sl := by cases s <;> first | rfl | exact hs.elim
    show (owns (o :: σ) (s :: sl)).Sublist (owns (u :: σ) (t :: sl))
    rw [e]
    cases t with
    | no => exact List.Sublist.refl _
    | val _ => exact List.Sublist.refl _
    | own _ => exact List.sublist_append_right _ _
    | par q _ => exact List.sublist_cons_self _ _
  | u :: σ, t :: sl, j + 1 => by
    have ih := owns_put (o := o) hs (σ := σ) (sl := sl) j
    show (owns (u :: σ.set j o) (t :: sl.set j s)).Sublist (owns (u :: σ) (t :: sl))
    cases t with
    | no => exact ih
    | val _ => exact ih
    | own _ => exact (List.Sublist.refl _).append ih
    | par q _ => exact ih.cons_cons q
theorem ownO_put {o : Option V} {s : Slot} (hs : s.lone) : ∀ {σ : St} {sl : List Slot} (j : Nat), (ownO (σ.set j o) (sl.set j s)).Sublist (ownO σ sl)
  | [], [], _ => by simp [ownO]
  | [], _ :: _, 0 => by simp [ownO]
  | [], _ :: _, _ + 1 => by simp [ownO]
  | _ :: _, [], 0 => by simp [ownO]
  | _ :: _, [], _ + 1 => by simp [ownO]
  | u :: σ, t :: sl, 0 => by
    have e : ownO (o :: σ) (s :: sl) = ownO σ sl := by cases s <;> first | rfl | exact hs.elim
    show (ownO (o :: σ) (s :: sl)).Sublist (ownO (u :: σ) (t :: sl))
    rw [e]
    cases t with
    | no => exact List.Sublist.refl _
    | val _ => exact List.Sublist.refl _
    | own _ => exact List.sublist_append_right _ _
    | par q _ => exact List.Sublist.refl _
  | u :: σ, t :: sl, j + 1 => by
    have ih := ownO_put (o := o) hs (σ := σ) (sl := sl) j
    show (ownO (u :: σ.set j o) (t :: sl.set j s)).Sublist (ownO (u :: σ) (t :: sl))
    cases t with
    | no => exact ih
    | val _ => exact ih
    | own _ => exact (List.Sublist.refl _).append ih
    | par q _ => exact ih
theorem parO_put {s : Slot} (hs : ∀ p c, s ≠ .par p c) : ∀ {sl : List Slot} (j : Nat), ∀ p ∈ parO (sl.set j s), p ∈ parO sl
  | [], _, p, h => by simpa using h
  | t :: sl, 0, p, h => by
    have h' : p ∈ parO (s :: sl) := h
    have e : parO (s :: sl) = parO sl := by
      cases s with
      | par q c => exact absurd rfl (hs q c)
      | _ => rfl
    rw [e] at h'
    cases t with
    | par q _ => exact List.mem_cons.mpr (.inr h')
    | _ => exact h'
  | t :: sl, j + 1, p, h => by
    have h' : p ∈ parO (t :: sl.set j s) := h
    cases t with
    | par q _ =>
      rcases List.mem_cons.mp h' with z | z
      · exact List.mem_cons.mpr (.inl z)
      · exact List.mem_cons.mpr (.inr (parO_put hs j p z))
    | _ => exact parO_put hs (sl := sl) j p h'
/-- a new object is owned by a slot -/
theorem owns_own {p : Addr} {c : Ct} : ∀ {σ : St} {sl : List Slot} (j : Nat), p ∉ owns σ sl → (owns σ sl).Nodup →
    (owns (σ.set j (some (.ref p))) (sl.set j (.own c))).Nodup ∧ (∀ q ∈ owns (σ.set j (some (.ref p))) (sl.set j (.own c)), q = p ∨ q ∈ owns σ sl) ∧ (∀ q ∈ ownO (σ.set j (some (.ref p))) (sl.set j (.own c)), q = p ∨ q ∈ ownO σ sl)
  | [], [], _, h, n => ⟨n, fun q h => by simp [owns] at h, fun q h => by simp [ownO] at h⟩
  | [], _ :: _, 0, h, n => ⟨by simp [owns], fun q h => by simp [owns] at h, fun q h => by simp [ownO] at h⟩
  | [], _ :: _, _ + 1, h, n => ⟨by simp [owns], fun q h => by simp [owns] at h, fun q h => by simp [ownO] at h⟩
  | _ :: _, [], 0, h, n => ⟨by simp [owns], fun q h => by simp [owns] at h, fun q h => by simp [ownO] at h⟩
  | _ :: _, [], _ + 1, h, n => ⟨by simp [owns], fun q h => by simp [owns] at h, fun q h => by simp [ownO] at h⟩
  | u :: σ, t :: sl, 0, h, n => by
    have e : owns (some (.ref p) :: σ) (.own c :: sl) = p :: owns σ sl := rfl
    have e2 : ownO (some (.ref p) :: σ) (.own c :: sl) = p :: ownO σ sl := rfl
    have sub : (owns σ sl).Sublist (owns (u :: σ) (t :: sl)) := by
      cases t with
      | no => exact List.Sublist.refl _
      | val _ => exact List.Sublist.refl _
      | own _ => exact List.sublist_append_right _ _
      | par q _ => exact List.sublist_cons_self _ _
    have sub2 : (ownO σ sl).Sublist (ownO (u :: σ) (t :: sl)) := by
      cases t with
      | no => exact List.Sublist.refl _
      | val _ => exact List.Sublist.refl _
      | own _ => exact List.sublist_append_right _ _
      | par q _ => exact List.Sublist.refl _
    show (owns (some (.ref p) :: σ) (.own c :: sl)).Nodup ∧ (∀ q ∈ owns (some (.ref p) :: σ) (.own c :: sl), _) ∧ (∀ q ∈ ownO (some (.ref p) :: σ) (.own c :: sl), _)
    rw [e, e2]
    refine ⟨List.nodup_cons.mpr ⟨fun z => h (sub.subset z), n.sublist sub⟩, fun q hq => ?_, fun q hq => ?_⟩
    · rcases List.mem_cons.mp hq with z | z
      · exact .inl z
      · exact .inr (sub.subset z)
    · rcases List.mem_cons.mp hq with z | z
      · exact .inl z
      · exact .inr (sub2.subset z)
  | u :: σ, t :: sl, j + 1, h, n => by
    show (owns (u :: σ.set j (some (.ref p))) (t :: sl.set j (.own c))).Nodup ∧ (∀ q ∈ owns (u :: σ.set j (some (.ref p))) (t :: sl.set j (.own c)), _) ∧ (∀ q ∈ ownO (u :: σ.set j (some (.ref p))) (t :: sl.set j (.own c)), _)
    cases t with
    | no => exact owns_own (σ := σ) (sl := sl) j h n
    | val _ => exact owns_own (σ := σ) (sl := sl) j h n
    | own d =>
      have n2 : (owns σ sl).Nodup := n.sublist (List.sublist_append_right _ _)
      have h2 : p ∉ owns σ sl := fun z => h (List.mem_append.mpr (.inr z))
      obtain ⟨i1, i2, i3⟩ := owns_own (c := c) (σ := σ) (sl := sl) j h2 n2
      refine ⟨List.nodup_append.mpr ⟨?_, i1, ?_⟩, fun q hq => ?_, fun q hq => ?_⟩
      · exact (List.nodup_append.mp n).1
      · intro a ha b hb e
        subst e
        rcases i2 a hb with z | z
        · subst z; exact h (List.mem_append.mpr (.inl ha))
        · exact (List.nodup_append.mp n).2.2 a ha a z rfl
      · rcases List.mem_append.mp hq with z | z
        · exact .inr (List.mem_append.mpr (.inl z))
        · rcases i2 q z with y | y
          · exact .inl y
          · exact .inr (List.mem_append.mpr (.inr y))
      · rcases List.mem_append.mp hq with z | z
        · exact .inr (List.mem_append.mpr (.inl z))
        · rcases i3 q z with y | y
          · exact .inl y
          · exact .inr (List.mem_append.mpr (.inr y))
    | par r d =>
      have n2 := List.nodup_cons.mp n
      have h2 : p ∉ owns σ sl := fun z => h (List.mem_cons.mpr (.inr z))
      obtain ⟨i1, i2, i3⟩ := owns_own (c := c) (σ := σ) (sl := sl) j h2 n2.2
      refine ⟨List.nodup_cons.mpr ⟨fun z => ?_, i1⟩, fun q hq => ?_, fun q hq => i3 q hq⟩
      · rcases i2 r z with y | y
        · subst y; exact h (List.mem_cons.mpr (.inl rfl))
        · exact n2.1 y
      · rcases List.mem_cons.mp hq with z | z
        · exact .inr (List.mem_cons.mpr (.inl z))
        · rcases i2 q z with y | y
          · exact .inl y
          · exact .inr (List.mem_cons.mpr (.inr y))
/-- what a slot owns is changed by others: its slot tells the new content -/
theorem Slots.lend {p : Addr} {c c' : Ct} (st : Stp [p] F H F' H') (hc : Hold F' H' p c') : ∀ {σ : St} {sl : List Slot} {j : Nat} {s : Slot} {o : Option V}, Slots F H σ sl → (owns σ sl).Nodup → sl[j]? = some s → σ[j]? = some o → s.hold o p c → Slots F' H' σ (sl.set j (s.to c')) ∧ p ∈ owns σ sl
  | [], [], _, _, _, _, _, h, _, _ => by simp at h
  | u :: σ, t :: sl, 0, s, o, hs, n, h, ho, hh => by
    simp at h ho
    subst h; subst ho
    have rest : p ∉ owns σ sl → Slots F' H' σ sl := fun np => Slots.step st.fr hs.2 fun q hq => by
      obtain ⟨h1, h2⟩ := Slots.owned hs.2 q hq
      have nq : q ∉ [p] := fun z => np (by rw [List.mem_singleton] at z; rw [← z]; exact hq)
      cases z : H q with
      | none => exact absurd z h2
      | some w =>
        have hk := hold_step (c := ⟨fun _ _ => True, fun _ _ => trivial⟩) (p := q) ⟨h1, w, z, trivial⟩ st nq
        exact ⟨hk.1, st.keep q w z nq⟩
    cases t with
    | no => exact hh.elim
    | val _ => exact hh.elim
    | own d =>
      obtain ⟨_, rfl⟩ := hh
      have np : p ∉ owns σ sl := (List.nodup_cons.mp n).1
      exact ⟨⟨⟨p, rfl, hc⟩, rest np⟩, List.mem_cons.mpr (.inl rfl)⟩
    | par q d =>
      obtain ⟨_, rfl⟩ := hh
      have np : q ∉ owns σ sl := (List.nodup_cons.mp n).1
      exact ⟨⟨⟨hs.1.1, hc⟩, rest np⟩, List.mem_cons.mpr (.inl rfl)⟩
  | u :: σ, t :: sl, j + 1, s, o, hs, n, h, ho, hh => by
    have n2 : (owns σ sl).Nodup := by
      cases t with
      | no => exact n
      | val _ => exact n
      | own _ => exact n.sublist (List.sublist_append_right _ _)
      | par _ _ => exact (List.nodup_cons.mp n).2
    obtain ⟨i1, i2⟩ := Slots.lend (c := c) st hc (σ := σ) (sl := sl) (j := j) (s := s) (o := o) hs.2 n2 (by simpa using h) (by simpa using ho) hh
    show Slots F' H' (u :: σ) (t :: sl.set j (s.to c')) ∧ p ∈ owns (u :: σ) (t :: sl)
    cases t with
    | no => exact ⟨⟨trivial, i1⟩, i2⟩
    | val w =>
      obtain ⟨v, hv, hr⟩ := hs.1
      exact ⟨⟨⟨v, hv, w.inst.mono st.fr hr⟩, i1⟩, i2⟩
    | own d =>
      obtain ⟨q, rfl, hq⟩ := hs.1
      have ne : q ∉ [p] := fun z => by
        rw [List.mem_singleton] at z
        subst z
        exact (List.nodup_append.mp n).2.2 q (by simp) q i2 rfl
      exact ⟨⟨⟨q, rfl, hold_step hq st ne⟩, i1⟩, List.mem_append.mpr (.inr i2)⟩
    | par q d =>
      obtain ⟨rfl, hq⟩ := hs.1
      have ne : q ∉ [p] := fun z => by
        rw [List.mem_singleton] at z
        subst z
        exact (List.nodup_cons.mp n).1 i2
      exact ⟨⟨⟨rfl, hold_step hq st ne⟩, i1⟩, List.mem_cons.mpr (.inr i2)⟩
theorem kd_set (c : Ct) : ∀ {sl : List Slot} {j : Nat} {s : Slot}, sl[j]? = some s → sl.map Slot.kd = (sl.set j (s.to c)).map Slot.kd
  | [], _, _, h => by simp at h
  | t :: sl, 0, s, h => by
    simp at h; subst h
    simp [Slot.kd_to]
  | t :: sl, j + 1, s, h => by
    have ih := kd_set c (sl := sl) (j := j) (s := s) (by simpa using h)
    simp [← ih]
/-- a slot's object, and what comes of its change -/
theorem Reg.lend {σ : St} {sl : List Slot} {j : Nat} {s : Slot} {c : Ct} (r : Reg F H σ sl) (hj : sl[j]? = some s) (hs : s = .own c ∨ ∃ q, s = .par q c) :
    ∃ p, σ[j]? = some (some (.ref p)) ∧ Hold F H p c ∧ p ∈ owns σ sl ∧ ∀ F' H' c', Stp [p] F H F' H' → Same F' H' → Hold F' H' p c' → Reg F' H' σ (sl.set j (s.to c')) ∧ Stp (owns σ sl) F H F' H' := by
  obtain ⟨o, ho, hk⟩ := r.ok.at hj
  have main : ∀ p, o = some (.ref p) → Hold F H p c → s.hold o p c → ∃ p, σ[j]? = some (some (.ref p)) ∧ Hold F H p c ∧ p ∈ owns σ sl ∧ ∀ F' H' c', Stp [p] F H F' H' → Same F' H' → Hold F' H' p c' → Reg F' H' σ (sl.set j (s.to c')) ∧ Stp (owns σ sl) F H F' H' := by
    intro p e hp hh
    have hm : p ∈ owns σ sl := (Slots.lend (Stp.refl _ _ _) hp r.ok r.nd hj ho hh).2
    refine ⟨p, by rw [ho, e], hp, hm, fun F' H' c' st sm hc => ?_⟩
    refine ⟨⟨sm, ?_, (Slots.lend st hc r.ok r.nd hj ho hh).1⟩, st.wk fun q hq => .inl (by rw [List.mem_singleton] at hq; rw [hq]; exact hm)⟩
    rw [← owns_kd (kd_set c' hj)]
    exact r.nd
  rcases hs with rfl | ⟨q, rfl⟩
  · obtain ⟨p, e, hp⟩ := hk
    exact main p e hp ⟨rfl, e⟩
  · obtain ⟨e, hp⟩ := hk
    exact main q e hp ⟨rfl, rfl⟩
/-- the object is written -/
theorem stp_write {p : Addr} {o : HO} (hp : H p ≠ none) : Stp [p] F H F (upd H p o) where
  fr := .refl F
  keep := fun b u h n => by rw [upd_ne (fun z => n (by rw [z]; exact List.mem_singleton.mpr rfl))]; exact h
  dom := fun b h => by
    by_cases z : b = p
    · subst z; rw [upd_same]; simp
    · rw [upd_ne z]; exact h
  new := fun b h => .inl h
theorem same_write {p : Addr} {o : HO} (s : Same F H) (fp : F p = none) : Same F (upd H p o) := fun b u h => by
  rw [upd_ne (ne_of_none h fp)]
  exact s b u h
end
end Wk

/-! Wk4: rules for the constructs, the term and its reading in one. -/
namespace Wk
open PySem L2

section
variable {ι : Type} (X : ι → Cx)
def E (e : Expr) (sl sl' : List Slot) {α : Type} [Rep α] (a : α) : Prop := ∃ te, (∀ i, PE (X i) e te) ∧ Ev te sl sl' a
def EN (e : Expr) (sl sl' : List Slot) (c : Ct) : Prop := ∃ te, (∀ i, PE (X i) e te) ∧ EvN te sl sl' c
def T (e : Expr) (sl sl' : List Slot) (b : Bool) : Prop := ∃ tt, (∀ i, PT (X i) e tt) ∧ EvT tt sl sl' b
def A (es : List Expr) (sl sl' : List Slot) (as : List Arg) : Prop := ∃ ta, (∀ i, PA (X i) es ta) ∧ EvA ta sl sl' as
def G (sts : List Stmt) (sl : List Slot) {ρ : Type} [Rep ρ] (r : Out ρ) : Prop := ∃ ts, (∀ i, PSs (X i) sts ts) ∧ Go ts sl r
def G1 (st : Stmt) (sl : List Slot) {ρ : Type} [Rep ρ] (r : Out ρ) : Prop := ∃ ts, (∀ i, PS (X i) st ts) ∧ Go ts sl r
/-- a target; js: the slots that it stores -/
def Tg (tg : Expr) (js : List Nat) {α : Type} [Rep α] (a : α) (sl sl' : List Slot) : Prop :=
  ∃ g, (∀ i, PG (X i) tg g) ∧ ∀ σ F H v, Reg F H σ sl → Rep.rep F v a → ∀ Q : St → Hp → Prop, (∀ σ', Reg F H σ' sl' → OwnOk σ sl H σ' sl' → (∀ p ∈ owns σ' sl', p ∈ owns σ sl) → (∀ k, k ∉ js → σ'[k]? = σ[k]?) → Q σ' H) → g v σ H Q
end

section
variable {ι : Type} {X : ι → Cx} {S : Sit} (f : Fam X S) {sl sl1 sl2 sl3 : List Slot} {α β γ : Type} [Rep α] [Rep β] [Rep γ] {a : α} {b : β} {e e1 e2 : Expr} {pos p1 p2 : Pos}
include f

theorem EN.val {xs : List α} (h : EN X e sl sl1 (cl xs)) : E X e sl sl1 xs := h.imp fun _ q => ⟨q.1, q.2.ev⟩

/-! ### names and constants -/
theorem x_var (j : Nat) {x : Str} (hN : S.N[j]? = some x) (hv : ∀ i, Vis (X i).env.scope x) (hs : sl[j]? = some (vl a)) (hd : (x == ("__debug__" : Str)) = false := by decide) (hcd : (x == ("__classdict__" : Str)) = false := by decide) :
    E X (.Name x pos) sl sl a :=
  ⟨tVar j, fun i => pe_var (by rw [f.N i]; exact hN) (hv i) hd hcd, rfl, fun σ F H r Q q => by
    obtain ⟨o, ho, v, rfl, hr⟩ := r.ok.at hs
    exact ⟨v, ho, q v F H (.refl _ _ _) r hr⟩⟩
theorem x_int {i : Int} {j} : E X (.Constant (.int i) j pos) sl sl i := ⟨_, fun _ => pe_int, rfl, fun σ F H r Q q => q _ F H (.refl _ _ _) r rfl⟩
theorem x_bool {b : Bool} {j} : E X (.Constant (.bool b) j pos) sl sl b := ⟨_, fun _ => pe_bl, rfl, fun σ F H r Q q => q _ F H (.refl _ _ _) r rfl⟩
theorem x_none {j} : E X (.Constant .none j pos) sl sl () := ⟨_, fun _ => pe_non, rfl, fun σ F H r Q q => q _ F H (.refl _ _ _) r rfl⟩
theorem x_str {s : Str} {j} (l : Txt) (h : s = tx l := by decide +kernel) : E X (.Constant (.str s) j pos) sl sl l := ⟨_, fun _ => pe_str, rfl, fun σ F H r Q q => q _ F H (.refl _ _ _) r (by rw [h]; rfl)⟩
/-- a constant of the module -/
theorem x_glob {v : V} {x : Str} {u : Value} (hg : ∀ i, Gl (X i) x) (hm : S.mg x = some u) (r : RelV v u) (ha : ∀ F, Rep.rep F v a) (hd : (x == ("__debug__" : Str)) = false := by decide) : E X (.Name x pos) sl sl a :=
  ⟨_, fun i => pe_glob (hg i) (by rw [f.mg i]; exact hm) r hd, rfl, fun σ F H r Q q => q _ F H (.refl _ _ _) r (ha F)⟩

/-! ### operators -/
theorem x_op {op : Operator} {r : R2} {c : γ} (ho : ∀ i, OpR (X i) (binaryOp op) r) (ha : E X e1 sl sl1 a) (hb : E X e2 sl1 sl2 b)
    (hr : ∀ F H x y, Same F H → Rep.rep F x a → Rep.rep F y b → ∀ Q : VK, (∀ v, Rep.rep F v c → Q v H) → r x y H Q) : E X (.BinOp e1 op e2 pos) sl sl2 c := by
  obtain ⟨ta, h1, q1⟩ := ha
  obtain ⟨tb, h2, q2⟩ := hb
  exact ⟨_, fun i => pe_op (ho i) (h1 i) (h2 i), ev_op q1 q2 hr⟩
theorem x_opI {op : Operator} {C : Int → Int → Prop} {g : Int → Int → Int} {i j : Int} (ho : ∀ i, OpR (X i) (binaryOp op) (rI C fun i j => .int (g i j))) (ha : E X e1 sl sl1 i) (hb : E X e2 sl1 sl2 j) (hc : C i j) : E X (.BinOp e1 op e2 pos) sl sl2 (g i j) :=
  x_op f ho ha hb fun F H x y _ hx hy Q q => ⟨i, j, hx, hy, hc, q _ rfl⟩
theorem x_add {i j : Int} (ha : E X e1 sl sl1 i) (hb : E X e2 sl1 sl2 j) : E X (.BinOp e1 .Add e2 pos) sl sl2 (i + j) :=
  x_op f (fun _ => op_add) ha hb fun F H x y _ hx hy Q q => ⟨i, j, hx, hy, q _ rfl⟩
theorem x_sub {i j : Int} (ha : E X e1 sl sl1 i) (hb : E X e2 sl1 sl2 j) : E X (.BinOp e1 .Sub e2 pos) sl sl2 (i - j) :=
  x_op f (fun _ => op_sub) ha hb fun F H x y _ hx hy Q q => ⟨i, j, hx, hy, q _ rfl⟩
theorem x_mul {i j : Int} (ha : E X e1 sl sl1 i) (hb : E X e2 sl1 sl2 j) (hc : CMul i j) : E X (.BinOp e1 .Mult e2 pos) sl sl2 (i * j) := x_opI f (fun _ => op_mul) ha hb hc
theorem x_fdiv {i j : Int} (ha : E X e1 sl sl1 i) (hb : E X e2 sl1 sl2 j) (hc : CDiv i j) : E X (.BinOp e1 .FloorDiv e2 pos) sl sl2 (i / j) := x_opI f (fun _ => op_fdiv) ha hb hc
theorem x_mod {i j : Int} (ha : E X e1 sl sl1 i) (hb : E X e2 sl1 sl2 j) (hc : 0 < j) : E X (.BinOp e1 .Mod e2 pos) sl sl2 (i % j) := x_opI f (C := fun _ j => 0 < j) (fun _ => op_mod) ha hb hc
theorem x_pow {i j : Int} (ha : E X e1 sl sl1 i) (hb : E X e2 sl1 sl2 j) (hc : CPow i j) : E X (.BinOp e1 .Pow e2 pos) sl sl2 (i ^ j.toNat) := x_opI f (fun _ => op_pow) ha hb hc
theorem x_addS {i j : Txt} (ha : E X e1 sl sl1 i) (hb : E X e2 sl1 sl2 j) (hc : i.length + j.length ≤ 16777216) : E X (.BinOp e1 .Add e2 pos) sl sl2 (i ++ j) :=
  x_op f (fun _ => op_add_str) ha hb fun F H x y _ hx hy Q q => ⟨tx i, tx j, hx, hy, by rw [tx_len, tx_len, sizeLine_eq]; exact hc, q _ (by rw [tx_app]; rfl)⟩
/-- a new object by an operator -/
theorem x_opN {op : Operator} {r : R2} {c : Ct} (ho : ∀ i, OpR (X i) (binaryOp op) r) (ha : E X e1 sl sl1 a) (hb : E X e2 sl1 sl2 b)
    (hr : ∀ F H x y, Same F H → Rep.rep F x a → Rep.rep F y b → ∀ Q : VK, (∀ o, c.A F o → ∀ p, H p = none → Q (.ref p) (upd H p o)) → r x y H Q) : EN X (.BinOp e1 op e2 pos) sl sl2 c := by
  obtain ⟨ta, h1, q1⟩ := ha
  obtain ⟨tb, h2, q2⟩ := hb
  exact ⟨_, fun i => pe_op (ho i) (h1 i) (h2 i), q1.1.trans q2.1, fun σ F H g Q q => ev2 q1 q2 g fun x y F' H' s g' hx hy =>
    hr F' H' x y g'.sub hx hy Q fun o ho p hp => new_end (sl := sl) q s g' ho p hp⟩
theorem x_cat {xs ys : List α} (ha : E X e1 sl sl1 xs) (hb : E X e2 sl1 sl2 ys) (hc : xs.length + ys.length ≤ 16777216) : EN X (.BinOp e1 .Add e2 pos) sl sl2 (cl (xs ++ ys)) :=
  x_opN f (fun _ => op_cat) ha hb fun F H x y sm ⟨p, vs, e1, h1, r1⟩ ⟨p', ws, e2, h2, r2⟩ Q q =>
    ⟨p, p', vs, ws, e1, e2, sm _ _ h1, sm _ _ h2, by rw [r1.len, r2.len, sizeLine_eq]; exact hc, fun p3 h3 => q _ ⟨_, rfl, r1.app r2⟩ p3 h3⟩
theorem x_rep {xs : List α} {k : Int} (ha : E X e1 sl sl1 xs) (hb : E X e2 sl1 sl2 k) (h0 : 0 ≤ k) (hc : xs.length * k.toNat ≤ 16777216) (hk : k < 2 ^ 63) : EN X (.BinOp e1 .Mult e2 pos) sl sl2 (cl (List.replicate k.toNat xs).flatten) :=
  x_opN f (fun _ => op_rep) ha hb fun F H x y sm ⟨p, vs, e1, h1, r1⟩ hy Q q =>
    ⟨p, k, vs, e1, hy, sm _ _ h1, by omega, hk, by rw [r1.len, sizeLine_eq]; exact hc, fun p3 h3 => q _ ⟨_, rfl, by
      have aux : ∀ n : Nat, Reps F (List.replicate n vs).flatten (List.replicate n xs).flatten := by
        intro n
        induction n with
        | zero => exact trivial
        | succ n ih =>
          rw [List.replicate_succ, List.replicate_succ, List.flatten_cons, List.flatten_cons]
          exact r1.app ih
      exact aux _⟩ p3 h3⟩

/-! ### comparisons -/
theorem x_cmp {op : CmpOp} {r : R2} {c : Bool} (ho : ∀ i, OpR (X i) (compareOp op) r) (ha : E X e1 sl sl1 a) (hb : E X e2 sl1 sl2 b) (hm : behindInMarks op e2 = false)
    (hr : ∀ F H x y, Same F H → Rep.rep F x a → Rep.rep F y b → ∀ Q : VK, Q (.bl c) H → r x y H Q) : E X (.Compare e1 [op] [e2] pos) sl sl2 c := by
  obtain ⟨ta, h1, q1⟩ := ha
  obtain ⟨tb, h2, q2⟩ := hb
  exact ⟨_, fun i => pe_cmpR (ho i) (h1 i) (h2 i) hm, ev_op q1 q2 fun F H x y sm hx hy Q q => hr F H x y sm hx hy Q (q _ rfl)⟩
theorem x_lt {i j : Int} (ha : E X e1 sl sl1 i) (hb : E X e2 sl1 sl2 j) : E X (.Compare e1 [.Lt] [e2] pos) sl sl2 (decide (i < j)) := x_cmp f (fun _ => op_lt) ha hb (nomark _) fun F H x y _ hx hy Q q => ⟨i, j, hx, hy, q⟩
theorem x_le {i j : Int} (ha : E X e1 sl sl1 i) (hb : E X e2 sl1 sl2 j) : E X (.Compare e1 [.LtE] [e2] pos) sl sl2 (decide (i ≤ j)) := x_cmp f (fun _ => op_le) ha hb (nomark _) fun F H x y _ hx hy Q q => ⟨i, j, hx, hy, q⟩
theorem x_gt {i j : Int} (ha : E X e1 sl sl1 i) (hb : E X e2 sl1 sl2 j) : E X (.Compare e1 [.Gt] [e2] pos) sl sl2 (decide (j < i)) := x_cmp f (fun _ => op_gt) ha hb (nomark _) fun F H x y _ hx hy Q q => ⟨i, j, hx, hy, q⟩
theorem x_ge {i j : Int} (ha : E X e1 sl sl1 i) (hb : E X e2 sl1 sl2 j) : E X (.Compare e1 [.GtE] [e2] pos) sl sl2 (decide (j ≤ i)) := x_cmp f (fun _ => op_ge) ha hb (nomark _) fun F H x y _ hx hy Q q => ⟨i, j, hx, hy, q⟩
theorem x_eqI {i j : Int} (ha : E X e1 sl sl1 i) (hb : E X e2 sl1 sl2 j) : E X (.Compare e1 [.Eq] [e2] pos) sl sl2 (decide (i = j)) := x_cmp f (fun _ => op_eq) ha hb (nomark _) fun F H x y _ hx hy Q q => by
  cases hx; cases hy
  exact ⟨rfl, by rw [show decide (Flat.toV i = Flat.toV j) = decide (i = j) from decide_eq_decide.mpr ⟨Flat.inj, fun h => by rw [h]⟩]; exact q⟩
theorem x_neI {i j : Int} (ha : E X e1 sl sl1 i) (hb : E X e2 sl1 sl2 j) : E X (.Compare e1 [.NotEq] [e2] pos) sl sl2 (!decide (i = j)) := x_cmp f (fun _ => op_ne) ha hb (nomark _) fun F H x y _ hx hy Q q => by
  cases hx; cases hy
  exact ⟨rfl, by rw [show decide (Flat.toV i = Flat.toV j) = decide (i = j) from decide_eq_decide.mpr ⟨Flat.inj, fun h => by rw [h]⟩]; exact q⟩
theorem x_eqS {i j : Txt} (ha : E X e1 sl sl1 i) (hb : E X e2 sl1 sl2 j) : E X (.Compare e1 [.Eq] [e2] pos) sl sl2 (decide (i = j)) := x_cmp f (fun _ => op_eq) ha hb (nomark _) fun F H x y _ hx hy Q q => by
  cases hx; cases hy
  exact ⟨rfl, by rw [show decide (Flat.toV i = Flat.toV j) = decide (i = j) from decide_eq_decide.mpr ⟨Flat.inj, fun h => by rw [h]⟩]; exact q⟩
theorem x_neS {i j : Txt} (ha : E X e1 sl sl1 i) (hb : E X e2 sl1 sl2 j) : E X (.Compare e1 [.NotEq] [e2] pos) sl sl2 (!decide (i = j)) := x_cmp f (fun _ => op_ne) ha hb (nomark _) fun F H x y _ hx hy Q q => by
  cases hx; cases hy
  exact ⟨rfl, by rw [show decide (Flat.toV i = Flat.toV j) = decide (i = j) from decide_eq_decide.mpr ⟨Flat.inj, fun h => by rw [h]⟩]; exact q⟩
/-- one sign in a text -/
theorem x_inS {c : Nat} {j : Txt} (ha : E X e1 sl sl1 [c]) (hb : E X e2 sl1 sl2 j) (hm : behindInMarks .In e2 = false := by rfl) : E X (.Compare e1 [.In] [e2] pos) sl sl2 (decide (c ∈ j)) := x_cmp f (fun _ => op_in_sign) ha hb hm fun F H x y _ hx hy Q q =>
  ⟨c, tx j, hx, hy, by rw [tx_cps]; exact q⟩
theorem x_notInS {c : Nat} {j : Txt} (ha : E X e1 sl sl1 [c]) (hb : E X e2 sl1 sl2 j) (hm : behindInMarks .NotIn e2 = false := by rfl) : E X (.Compare e1 [.NotIn] [e2] pos) sl sl2 (!decide (c ∈ j)) := x_cmp f (fun _ => op_notIn_sign) ha hb hm fun F H x y _ hx hy Q q =>
  ⟨c, tx j, hx, hy, by rw [tx_cps]; exact q⟩

/-! ### tests -/
omit f in
theorem pt_tr {i : ι} {te : TE} (hK : (X i).K = S.K) (h1 : PE (X i) e te) (he : ∀ whole, isTrue e (X i).env whole = (do let v ← whole; standAt e.pos; holding [v] (truthy v))) : PT (X i) e (fun σ H Q => te σ H fun x H' => ∃ k, TruV S.K x H' k ∧ Q k H') := by
  have q := pt_truth h1 he
  rw [hK] at q
  exact q
theorem E.tst {b : Bool} (h : E X e sl sl1 b) (he : ∀ i whole, isTrue e (X i).env whole = (do let v ← whole; standAt e.pos; holding [v] (truthy v)) := by intro _ _; rfl) : T X e sl sl1 b := by
  obtain ⟨te, h1, h2⟩ := h
  exact ⟨_, fun i => pt_val (h1 i) (he i), h2.1, fun σ F H r Q q => h2.2 σ F H r _ fun v F' H' s r' hv => ⟨b, hv, q F' H' s r'⟩⟩
theorem t_cmp {op : CmpOp} {r : R2} {c : Bool} (ho : ∀ i, OpR (X i) (compareOp op) r) (ha : E X e1 sl sl1 a) (hb : E X e2 sl1 sl2 b) (hm : behindInMarks op e2 = false)
    (hr : ∀ F H x y, Same F H → Rep.rep F x a → Rep.rep F y b → ∀ Q : VK, Q (.bl c) H → r x y H Q) : T X (.Compare e1 [op] [e2] pos) sl sl2 c := by
  obtain ⟨ta, h1, q1⟩ := ha
  obtain ⟨tb, h2, q2⟩ := hb
  exact ⟨_, fun i => pt_cmpR (ho i) (h1 i) (h2 i) hm, q1.1.trans q2.1, fun σ F H g Q q => ev2 q1 q2 g fun x y F' H' s g' hx hy => hr F' H' x y g'.sub hx hy _ ⟨c, rfl, q F' H' s g'⟩⟩
theorem t_lt {i j : Int} (ha : E X e1 sl sl1 i) (hb : E X e2 sl1 sl2 j) : T X (.Compare e1 [.Lt] [e2] pos) sl sl2 (decide (i < j)) := t_cmp f (fun _ => op_lt) ha hb (nomark _) fun F H x y _ hx hy Q q => ⟨i, j, hx, hy, q⟩
theorem t_le {i j : Int} (ha : E X e1 sl sl1 i) (hb : E X e2 sl1 sl2 j) : T X (.Compare e1 [.LtE] [e2] pos) sl sl2 (decide (i ≤ j)) := t_cmp f (fun _ => op_le) ha hb (nomark _) fun F H x y _ hx hy Q q => ⟨i, j, hx, hy, q⟩
theorem t_gt {i j : Int} (ha : E X e1 sl sl1 i) (hb : E X e2 sl1 sl2 j) : T X (.Compare e1 [.Gt] [e2] pos) sl sl2 (decide (j < i)) := t_cmp f (fun _ => op_gt) ha hb (nomark _) fun F H x y _ hx hy Q q => ⟨i, j, hx, hy, q⟩
theorem t_ge {i j : Int} (ha : E X e1 sl sl1 i) (hb : E X e2 sl1 sl2 j) : T X (.Compare e1 [.GtE] [e2] pos) sl sl2 (decide (j ≤ i)) := t_cmp f (fun _ => op_ge) ha hb (nomark _) fun F H x y _ hx hy Q q => ⟨i, j, hx, hy, q⟩
theorem t_eqI {i j : Int} (ha : E X e1 sl sl1 i) (hb : E X e2 sl1 sl2 j) : T X (.Compare e1 [.Eq] [e2] pos) sl sl2 (decide (i = j)) := t_cmp f (fun _ => op_eq) ha hb (nomark _) fun F H x y _ hx hy Q q => by
  cases hx; cases hy
  exact ⟨rfl, by rw [show decide (Flat.toV i = Flat.toV j) = decide (i = j) from decide_eq_decide.mpr ⟨Flat.inj, fun h => by rw [h]⟩]; exact q⟩
theorem t_neI {i j : Int} (ha : E X e1 sl sl1 i) (hb : E X e2 sl1 sl2 j) : T X (.Compare e1 [.NotEq] [e2] pos) sl sl2 (!decide (i = j)) := t_cmp f (fun _ => op_ne) ha hb (nomark _) fun F H x y _ hx hy Q q => by
  cases hx; cases hy
  exact ⟨rfl, by rw [show decide (Flat.toV i = Flat.toV j) = decide (i = j) from decide_eq_decide.mpr ⟨Flat.inj, fun h => by rw [h]⟩]; exact q⟩
theorem t_eqS {i j : Txt} (ha : E X e1 sl sl1 i) (hb : E X e2 sl1 sl2 j) : T X (.Compare e1 [.Eq] [e2] pos) sl sl2 (decide (i = j)) := t_cmp f (fun _ => op_eq) ha hb (nomark _) fun F H x y _ hx hy Q q => by
  cases hx; cases hy
  exact ⟨rfl, by rw [show decide (Flat.toV i = Flat.toV j) = decide (i = j) from decide_eq_decide.mpr ⟨Flat.inj, fun h => by rw [h]⟩]; exact q⟩
theorem t_neS {i j : Txt} (ha : E X e1 sl sl1 i) (hb : E X e2 sl1 sl2 j) : T X (.Compare e1 [.NotEq] [e2] pos) sl sl2 (!decide (i = j)) := t_cmp f (fun _ => op_ne) ha hb (nomark _) fun F H x y _ hx hy Q q => by
  cases hx; cases hy
  exact ⟨rfl, by rw [show decide (Flat.toV i = Flat.toV j) = decide (i = j) from decide_eq_decide.mpr ⟨Flat.inj, fun h => by rw [h]⟩]; exact q⟩
theorem t_inS {c : Nat} {j : Txt} (ha : E X e1 sl sl1 [c]) (hb : E X e2 sl1 sl2 j) (hm : behindInMarks .In e2 = false := by rfl) : T X (.Compare e1 [.In] [e2] pos) sl sl2 (decide (c ∈ j)) := t_cmp f (fun _ => op_in_sign) ha hb hm fun F H x y _ hx hy Q q =>
  ⟨c, tx j, hx, hy, by rw [tx_cps]; exact q⟩
theorem t_notInS {c : Nat} {j : Txt} (ha : E X e1 sl sl1 [c]) (hb : E X e2 sl1 sl2 j) (hm : behindInMarks .NotIn e2 = false := by rfl) : T X (.Compare e1 [.NotIn] [e2] pos) sl sl2 (!decide (c ∈ j)) := t_cmp f (fun _ => op_notIn_sign) ha hb hm fun F H x y _ hx hy Q q =>
  ⟨c, tx j, hx, hy, by rw [tx_cps]; exact q⟩
theorem t_not {c : Bool} (h : T X e sl sl1 c) : T X (.UnaryOp .Not e pos) sl sl1 (!c) := by
  obtain ⟨t, h1, h2⟩ := h
  exact ⟨_, fun i => pt_not (h1 i), h2.1, fun σ F H r Q q => h2.2 σ F H r _ fun F' H' s r' => q F' H' s r'⟩
/-- truth of a text, an int -/
theorem t_truI {i : Int} (h : E X e sl sl1 i) (he : ∀ j whole, isTrue e (X j).env whole = (do let v ← whole; standAt e.pos; holding [v] (truthy v)) := by intro _ _; rfl) : T X e sl sl1 (i != 0) := by
  obtain ⟨te, h1, h2⟩ := h
  refine ⟨_, fun j => pt_tr (f.K j) (h1 j) (he j), h2.1, fun σ F H r Q q => h2.2 σ F H r _ fun v F' H' s r' hv => ⟨_, by rw [show v = V.int i from hv]; exact rfl, q F' H' s r'⟩⟩
end
/-- chains of and, or -/
def Ts {ι : Type} (X : ι → Cx) (e : Expr) (sl sl' : List Slot) (b : Bool) : Prop := ∃ tt, (∀ i, PW (X i) e tt) ∧ EvT tt sl sl' b
section
variable {ι : Type} {X : ι → Cx} {sl sl1 : List Slot} {e e1 : Expr} {rest : List Expr} {pos : Pos} {a b : Bool}
theorem Ts.t (h : Ts X e sl sl1 a) : T X e sl sl1 a := h.imp fun _ q => ⟨fun i => (q.1 i).pt, q.2⟩
theorem ts_and1 (h : T X e sl sl1 a) : Ts X (.BoolOp .And [e] pos) sl sl1 a := h.imp fun _ q => ⟨fun i => pw_and1 (q.1 i), q.2⟩
theorem ts_or1 (h : T X e sl sl1 a) : Ts X (.BoolOp .Or [e] pos) sl sl1 a := h.imp fun _ q => ⟨fun i => pw_or1 (q.1 i), q.2⟩
theorem pe_nev {X : Cx} {e : Expr} : PE X e (fun _ _ _ => False) := ⟨fun _ _ _ _ _ _ h => h.elim⟩
theorem pt_nev {X : Cx} {e : Expr} : PT X e (fun _ _ _ => False) := ⟨fun _ _ _ _ _ _ h => h.elim⟩
theorem pw_nev {X : Cx} {op : BoolOp} {es : List Expr} : PW X (.BoolOp op es pos) (fun _ _ _ => False) := ⟨fun _ _ _ _ _ _ _ h => h.elim⟩
/-- the second is asked where the first is so -/
theorem ts_and (h : T X e sl sl1 a) (h2 : a = true → Ts X (.BoolOp .And (e1 :: rest) pos) sl1 sl1 b) : Ts X (.BoolOp .And (e :: e1 :: rest) pos) sl sl1 (a && b) := by
  obtain ⟨t, g1, g2⟩ := h
  cases a with
  | true =>
    obtain ⟨u, k1, k2⟩ := h2 rfl
    refine ⟨_, fun i => pw_and (g1 i) (k1 i), g2.1, fun σ F H r Q q => g2.2 σ F H r _ fun F1 H1 s1 r1 => ?_⟩
    rw [if_pos rfl]
    exact k2.2 σ F1 H1 r1 Q fun F2 H2 s2 r2 => q F2 H2 (s1.trans s2 fun p hp => .inl (by rw [owns_kd g2.1]; exact hp)) r2
  | false =>
    refine ⟨_, fun i => pw_and (g1 i) pw_nev, g2.1, fun σ F H r Q q => g2.2 σ F H r _ fun F1 H1 s1 r1 => ?_⟩
    rw [if_neg Bool.false_ne_true]
    exact q F1 H1 s1 r1
theorem ts_or (h : T X e sl sl1 a) (h2 : a = false → Ts X (.BoolOp .Or (e1 :: rest) pos) sl1 sl1 b) : Ts X (.BoolOp .Or (e :: e1 :: rest) pos) sl sl1 (a || b) := by
  obtain ⟨t, g1, g2⟩ := h
  cases a with
  | true =>
    refine ⟨_, fun i => pw_or (g1 i) pw_nev, g2.1, fun σ F H r Q q => g2.2 σ F H r _ fun F1 H1 s1 r1 => ?_⟩
    rw [if_pos rfl]
    exact q F1 H1 s1 r1
  | false =>
    obtain ⟨u, k1, k2⟩ := h2 rfl
    refine ⟨_, fun i => pw_or (g1 i) (k1 i), g2.1, fun σ F H r Q q => g2.2 σ F H r _ fun F1 H1 s1 r1 => ?_⟩
    rw [if_neg Bool.false_ne_true]
    exact k2.2 σ F1 H1 r1 Q fun F2 H2 s2 r2 => q F2 H2 (s1.trans s2 fun p hp => .inl (by rw [owns_kd g2.1]; exact hp)) r2
end
end Wk

/-! Wk5: statements, sources of loops, comprehensions, calls. -/
namespace Wk
open PySem L2

/-! ### the widest readings -/
section
variable {ι : Type} (X : ι → Cx)
def uE (e : Expr) : TE := fun σ H Q => ∃ te, (∀ i, PE (X i) e te) ∧ te σ H Q
def uT (e : Expr) : TT := fun σ H Q => ∃ te, (∀ i, PT (X i) e te) ∧ te σ H Q
def uS (sts : List Stmt) : TS := fun D σ H => ∃ ts, (∀ i, PSs (X i) sts ts) ∧ ts D σ H
end
section
variable {ι : Type} {X : ι → Cx} {e : Expr} {sts : List Stmt} {sl sl1 : List Slot}
theorem uE_ok (i : ι) : PE (X i) e (uE X e) := ⟨fun pins s σ H Q I h => by
  obtain ⟨te, h1, h2⟩ := h
  exact (h1 i).run pins s σ H Q I h2⟩
theorem uT_ok (i : ι) : PT (X i) e (uT X e) := ⟨fun pins s σ H Q I h => by
  obtain ⟨te, h1, h2⟩ := h
  exact (h1 i).run pins s σ H Q I h2⟩
theorem uS_ok (i : ι) : PSs (X i) sts (uS X sts) := ⟨fun pins s σ H D I h => by
  obtain ⟨te, h1, h2⟩ := h
  exact (h1 i).run pins s σ H D I h2⟩
theorem E.u {α : Type} [Rep α] {a : α} (h : E X e sl sl1 a) : Ev (uE X e) sl sl1 a := by
  obtain ⟨te, h1, h2⟩ := h
  exact ⟨h2.1, fun σ F H r Q q => ⟨te, h1, h2.2 σ F H r Q q⟩⟩
theorem EN.u {c : Ct} (h : EN X e sl sl1 c) : EvN (uE X e) sl sl1 c := by
  obtain ⟨te, h1, h2⟩ := h
  exact ⟨h2.1, fun σ F H r Q q => ⟨te, h1, h2.2 σ F H r Q q⟩⟩
theorem T.u {b : Bool} (h : T X e sl sl1 b) : EvT (uT X e) sl sl1 b := by
  obtain ⟨te, h1, h2⟩ := h
  exact ⟨h2.1, fun σ F H r Q q => ⟨te, h1, h2.2 σ F H r Q q⟩⟩
theorem G.u {ρ : Type} [Rep ρ] {r : Out ρ} (h : G X sts sl r) : Go (uS X sts) sl r := by
  obtain ⟨ts, h1, h2⟩ := h
  exact fun σ F H D g m => ⟨ts, h1, h2 σ F H D g m⟩
end

/-! ### blocks and statements -/
section
variable {ι : Type} {X : ι → Cx} {S : Sit} (f : Fam X S) {sl sl1 sl2 sl3 : List Slot} {α β γ ρ : Type} [Rep α] [Rep β] [Rep γ] [Rep ρ] {a : α} {b : β} {e e1 e2 : Expr} {pos p1 p2 : Pos} {st : Stmt} {rest A B : List Stmt} {r : Out ρ}
theorem g_nil : G X [] sl (.next sl : Out ρ) := ⟨_, fun _ => pss_nil, go_nil⟩
theorem g_cons (h1 : G1 X st sl (.next sl1 : Out ρ)) (h2 : G X rest sl1 r) : G X (st :: rest) sl r := by
  obtain ⟨t, a1, a2⟩ := h1
  obtain ⟨u, b1, b2⟩ := h2
  exact ⟨_, fun i => pss_cons (a1 i) (b1 i), go_seq a2 b2⟩
/-- it ends here, whatever stands behind -/
theorem g_end (h1 : G1 X st sl r) (hn : ∀ s, r ≠ .next s := by intro s h; cases h) : G X (st :: rest) sl r := by
  obtain ⟨t, a1, a2⟩ := h1
  exact ⟨_, fun i => pss_cons (a1 i) pss_never, go_out a2 hn⟩
theorem g_one (h : G1 X st sl r) : G X [st] sl r := by
  obtain ⟨t, a1, a2⟩ := h
  exact ⟨_, fun i => pss_one (a1 i), a2⟩
theorem g1_ret {a : ρ} (h : E X e sl sl1 a) : G1 X (.Return (some e) pos) sl (.ret a sl1) := by
  obtain ⟨t, a1, a2⟩ := h
  exact ⟨_, fun i => ps_ret (a1 i), go_ret a2⟩
theorem g1_retN {c : Ct} (h : EN X e sl sl1 c) : G1 X (.Return (some e) pos) sl (.new c sl1 : Out ρ) := by
  obtain ⟨t, a1, a2⟩ := h
  exact ⟨_, fun i => ps_ret (a1 i), go_retN a2⟩
/-- an owned object is handed out -/
theorem g1_retO (f : Fam X S) (j : Nat) {x : Str} {c : Ct} (hN : S.N[j]? = some x) (hv : ∀ i, Vis (X i).env.scope x) (hs : sl[j]? = some (.own c)) (hd : (x == ("__debug__" : Str)) = false := by decide) (hcd : (x == ("__classdict__" : Str)) = false := by decide) :
    G1 X (.Return (some (.Name x p1)) pos) sl (.new c (sl.set j .no) : Out ρ) := by
  refine ⟨_, fun i => ps_ret (pe_var (i := j) (by rw [f.N i]; exact hN) (hv i) hd hcd), fun σ F H D g m => ?_⟩
  obtain ⟨p, h1, h2, h3, h4⟩ := g.lend hs (.inl rfl)
  refine ⟨.ref p, h1, ?_⟩
  have g2 : Reg F H σ (sl.set j .no) := by
    have e : σ.set j (some (.ref p)) = σ := by
      refine List.ext_getElem? fun n => ?_
      by_cases z : j = n
      · subst z; rw [List.getElem?_set_self (List.getElem?_eq_some_iff.mp h1).1, h1]
      · rw [List.getElem?_set_ne z]
    have q := Slots.put (o := some (.ref p)) (s := .no) (F := F) (H := H) trivial j g.ok
    rw [e] at q
    refine ⟨g.sub, ?_, q⟩
    have q2 := owns_put (o := some (.ref p)) (s := .no) trivial (σ := σ) (sl := sl) j
    rw [e] at q2
    exact g.nd.sublist q2
  have mem : p ∈ ownO σ sl ∧ p ∉ owns σ (sl.set j .no) := by
    have aux : ∀ {σ : St} {sl : List Slot} {j : Nat}, Slots F H σ sl → (owns σ sl).Nodup → sl[j]? = some (.own c) → σ[j]? = some (some (.ref p)) → p ∈ ownO σ sl ∧ p ∉ owns σ (sl.set j .no) := by
      intro σ
      induction σ with
      | nil => intro sl j _ _ _ h; simp at h
      | cons o σ ih =>
        intro sl j hs hn ha hb
        cases sl with
        | nil => simp at ha
        | cons s sl =>
          cases j with
          | zero =>
            simp at ha hb
            subst ha; subst hb
            refine ⟨List.mem_append.mpr (.inl (by simp)), ?_⟩
            exact (List.nodup_cons.mp hn).1
          | succ j =>
            have n2 : (owns σ sl).Nodup := by
              cases s with
              | no => exact hn
              | val _ => exact hn
              | own _ => exact hn.sublist (List.sublist_append_right _ _)
              | par _ _ => exact (List.nodup_cons.mp hn).2
            obtain ⟨i1, i2⟩ := ih (sl := sl) (j := j) hs.2 n2 (by simpa using ha) (by simpa using hb)
            have i3 := ownO_owns i1
            show p ∈ ownO (o :: σ) (s :: sl) ∧ p ∉ owns (o :: σ) (s :: sl.set j .no)
            cases s with
            | no => exact ⟨i1, i2⟩
            | val _ => exact ⟨i1, i2⟩
            | own d =>
              refine ⟨List.mem_append.mpr (.inr i1), fun z => ?_⟩
              rcases List.mem_append.mp z with y | y
              · exact (List.nodup_append.mp hn).2.2 p y p i3 rfl
              · exact i2 y
            | par q d =>
              refine ⟨i1, fun z => ?_⟩
              rcases List.mem_cons.mp z with y | y
              · subst y; exact (List.nodup_cons.mp hn).1 i3
              · exact i2 y
    exact aux g.ok g.nd hs h1
  refine m p σ F H (.refl _ _ _) g2 ⟨fun q hq => .inl ?_, fun q hq => parO_put (fun _ _ => by intro h; cases h) j q hq⟩ (.inl mem.1) mem.2 h2
  have q2 := ownO_put (o := some (.ref p)) (s := .no) trivial (σ := σ) (sl := sl) j
  have e : σ.set j (some (.ref p)) = σ := by
    refine List.ext_getElem? fun n => ?_
    by_cases z : j = n
    · subst z; rw [List.getElem?_set_self (List.getElem?_eq_some_iff.mp h1).1, h1]
    · rw [List.getElem?_set_ne z]
  rw [e] at q2
  exact q2.subset hq
theorem g1_expr (h : E X e sl sl1 a) (hs : ∀ i, swapsWith e none pos.line (X i).env = pure false := by intro _; rfl) : G1 X (.Expr e pos) sl (.next sl1 : Out ρ) := by
  obtain ⟨t, a1, a2⟩ := h
  exact ⟨_, fun i => ps_expr (a1 i) (hs i), go_drop a2⟩
theorem g1_if {b : Bool} (hc : T X e sl sl1 b) (h1 : b = true → G X A sl1 r) (h2 : b = false → G X B sl1 r) : G1 X (.If e A B pos) sl r := by
  obtain ⟨t, a1, a2⟩ := hc
  refine ⟨_, fun i => ps_if (a1 i) (uS_ok i) (uS_ok i), go_if a2 (fun h => (h1 h).u) (fun h => (h2 h).u)⟩
/-- an if whose ways go on or end -/
theorem g_if {b : Bool} (hc : T X e sl sl1 b) (h1 : b = true → (∃ s, G X A sl1 (.next s : Out ρ) ∧ G X rest s r) ∨ (G X A sl1 r ∧ ∀ s, r ≠ .next s)) (h2 : b = false → (∃ s, G X B sl1 (.next s : Out ρ) ∧ G X rest s r) ∨ (G X B sl1 r ∧ ∀ s, r ≠ .next s)) :
    G X (.If e A B pos :: rest) sl r := by
  cases hb : b with
  | true =>
    subst hb
    rcases h1 rfl with ⟨s, k1, k2⟩ | ⟨k1, k2⟩
    · exact g_cons (g1_if hc (fun _ => k1) (fun h => by cases h)) k2
    · exact g_end (g1_if hc (fun _ => k1) (fun h => by cases h)) k2
  | false =>
    subst hb
    rcases h2 rfl with ⟨s, k1, k2⟩ | ⟨k1, k2⟩
    · exact g_cons (g1_if hc (fun h => by cases h) (fun _ => k1)) k2
    · exact g_end (g1_if hc (fun h => by cases h) (fun _ => k1)) k2
/-- if c: it ends (no else) -/
theorem g_when {b : Bool} (hc : T X e sl sl1 b) (h1 : b = true → G X A sl1 r) (h2 : b = false → G X rest sl1 r) (hn : b = true → ∀ s, r ≠ .next s := by intro _ s h; cases h) : G X (.If e A [] pos :: rest) sl r :=
  g_if hc (fun h => .inr ⟨h1 h, hn h⟩) (fun h => .inl ⟨sl1, g_nil, h2 h⟩)

/-! ### targets and stores -/
theorem slots_at_none {F H : Hp} {σ : St} {sl : List Slot} (h : Slots F H σ sl) (j : Nat) (hj : j < sl.length) : j < σ.length := by rw [h.len]; exact hj
/-- a value goes into a slot -/
theorem reg_put {F H : Hp} {σ : St} {s : Slot} {o : Option V} (j : Nat) (r : Reg F H σ sl) (hl : s.lone) (ho : s.ok F H o) (hp : ∀ p c, s ≠ .par p c) : Reg F H (σ.set j o) (sl.set j s) ∧ OwnOk σ sl H (σ.set j o) (sl.set j s) ∧ ∀ p ∈ owns (σ.set j o) (sl.set j s), p ∈ owns σ sl :=
  ⟨⟨r.sub, r.nd.sublist (owns_put hl j), r.ok.put ho j⟩, ⟨fun p h => .inl ((ownO_put hl j).subset h), parO_put hp j⟩, fun p h => (owns_put hl j).subset h⟩
theorem tg_name (f : Fam X S) (j : Nat) {x : Str} (hN : S.N[j]? = some x) (hx : ∀ i, Loc (X i).env.scope x) (hf : ∀ i, (X i).fn x = true ∨ (X i).env.scope.names.lookup x = some .local) : Tg X (.Name x pos) [j] a sl (sl.set j (vl a)) :=
  ⟨gName j, fun i => pg_name (by rw [f.N i]; exact f.nd) (by rw [f.N i]; exact hN) (hx i) (hf i), fun σ F H v r hv Q q => by
    obtain ⟨g1, g2, g3⟩ := reg_put (s := vl a) (o := some v) j r trivial ⟨v, rfl, hv⟩ (by intro p c h; cases h)
    exact q _ g1 g2 g3 fun k hk => List.getElem?_set_ne (fun e => hk (by rw [e]; exact List.mem_singleton.mpr rfl))⟩
theorem tg_pair (f : Fam X S) {t1 t2 : Expr} {k : Nat} {js ks : List Nat} {a : α} {b : β} (h1 : Tg X t1 js a sl sl1) (h2 : Tg X t2 ks b sl1 sl2) (hn : ∀ i, (assignEach [t1, t2] (X i).env).length = 2 := by intro _; rfl) (hst : ∀ i, (assignEach [t1, t2] (X i).env).findIdx? (·.1) = none := by intro _; rfl)
    (ha : ∀ i, (assignEach [t1, t2] (X i).env).map (·.2) = assign t1 (X i).env :: (assignEach [t2] (X i).env).map (·.2) := by intro _; rfl) (ha2 : ∀ i, (assignEach [t2] (X i).env).map (·.2) = assign t2 (X i).env :: (assignEach [] (X i).env).map (·.2) := by intro _; rfl) :
    Tg X (.Tuple [t1, t2] k pos) (js ++ ks) (a, b) sl sl2 := by
  obtain ⟨g1, a1, b1⟩ := h1
  obtain ⟨g2, a2, b2⟩ := h2
  refine ⟨gTup S.K 2 (gCons g1 (gCons g2 gNil)), fun i => ?_, fun σ F H v r hv Q q => ?_⟩
  · have z := pg_tup (pos := pos) (k := k) (f.calm i) (pgs_cons (a1 i) (pgs_cons (a2 i) pgs_nil (ha2 i)) (ha i)) (hn i) (hst i)
    rw [f.K i] at z
    exact z
  · obtain ⟨p, x, y, rfl, hp, hx, hy⟩ := hv
    refine ⟨p, [x, y], rfl, SqT.of (r.sub _ _ hp), rfl, x, [y], rfl, ?_⟩
    refine b1 σ F H x r hx _ fun σ1 r1 o1 s1 k1 => ⟨y, [], rfl, ?_⟩
    refine b2 σ1 F H y r1 hy _ fun σ2 r2 o2 s2 k2 => ⟨rfl, ?_⟩
    exact q σ2 r2 (o1.trans (F := F) (F1 := F) o2 fun _ z => z) (fun p hp => s1 p (s2 p hp)) fun k hk => (k2 k fun z => hk (List.mem_append.mpr (.inr z))).trans (k1 k fun z => hk (List.mem_append.mpr (.inl z)))
/-- target = value -/
theorem g1_asg {tg : Expr} {js : List Nat} (h : E X e sl sl1 a) (ht : Tg X tg js a sl1 sl2) (hs : ∀ i, swapsWithSole [tg] e pos.line (X i).env = pure false := by intro _; rfl) (hw : ∀ i, swappedStores [tg] e (X i).env = pure none := by intro _; rfl)
    (h1 : ∀ i, (assignEach [tg] (X i).env).map (·.2) = [assign tg (X i).env] := by intro _; rfl) : G1 X (.Assign [tg] e pos) sl (.next sl2 : Out ρ) := by
  obtain ⟨te, a1, a2⟩ := h
  obtain ⟨g, b1, b2⟩ := ht
  refine ⟨_, fun i => ps_asg (a1 i) (b1 i) (hs i) (hw i) (h1 i), fun σ F H D r m => a2.2 σ F H r _ fun v F1 H1 s1 r1 hv => b2 σ F1 H1 v r1 hv _ fun σ2 r2 o2 s2 _ => ?_⟩
  exact m σ2 F1 H1 s1 r2 ((OwnOk.same a2.1).trans (F := F) (F1 := F1) o2 fun p z => s1.free z)
/-- a new object goes into a slot, owned -/
theorem reg_own {F H F' H' : Hp} {σ : St} {c : Ct} {p : Addr} (j : Nat) (s : Stp (owns σ sl) F H F' H') (r : Reg F' H' σ sl1) (k : sl.map Slot.kd = sl1.map Slot.kd) (r0 : Reg F H σ sl) (hp : H p = none) (hc : Hold F' H' p c) :
    Reg F' H' (σ.set j (some (.ref p))) (sl1.set j (.own c)) ∧ OwnOk σ sl H (σ.set j (some (.ref p))) (sl1.set j (.own c)) := by
  have hn : p ∉ owns σ sl1 := by rw [← owns_kd k]; exact fresh_owns r0 hp
  obtain ⟨n1, n2, n3⟩ := owns_own (c := c) (σ := σ) (sl := sl1) j hn r.nd
  refine ⟨⟨r.sub, n1, r.ok.put (s := .own c) (o := some (.ref p)) ⟨p, rfl, hc⟩ j⟩, fun q hq => ?_, fun q hq => ?_⟩
  · rcases n3 q hq with z | z
    · subst z; exact .inr hp
    · rw [← ownO_kd k] at z; exact .inl z
  · have := parO_put (s := .own c) (by intro p c h; cases h) j q hq
    rw [← parO_kd k] at this
    exact this
theorem g1_own (f : Fam X S) (j : Nat) {x : Str} {c : Ct} (h : EN X e sl sl1 c) (hN : S.N[j]? = some x) (hx : ∀ i, Loc (X i).env.scope x) (hf : ∀ i, (X i).fn x = true ∨ (X i).env.scope.names.lookup x = some .local)
    (hs : ∀ i, swapsWith e (some (.Name x p1)) pos.line (X i).env = pure false := by intro _; rfl) : G1 X (.Assign [.Name x p1] e pos) sl (.next (sl1.set j (.own c)) : Out ρ) := by
  obtain ⟨te, a1, a2⟩ := h
  refine ⟨_, fun i => ps_set (by rw [f.N i]; exact f.nd) (by rw [f.N i]; exact hN) (hx i) (a1 i) (hs i) (hf i), fun σ F H D r m => a2.2 σ F H r _ fun p F1 H1 s1 r1 hp hc => ?_⟩
  obtain ⟨g1, g2⟩ := reg_own j s1 r1 a2.1 r hp hc
  exact m _ F1 H1 s1 g1 g2
/-- an owned list becomes a value -/
theorem g_frz (j : Nat) {xs : List α} {sts : List Stmt} (hj : sl[j]? = some (.own (cl xs))) (h : G X sts (sl.set j (vl xs)) r) : G X sts sl r := by
  obtain ⟨t, a1, a2⟩ := h
  refine ⟨t, a1, fun σ F H D g m => ?_⟩
  obtain ⟨p, h1, ⟨fp, o, ho, vs, rfl, hr⟩, hm, _⟩ := g.lend hj (.inl rfl)
  have eσ : σ.set j (some (.ref p)) = σ := by
    refine List.ext_getElem? fun n => ?_
    by_cases z : j = n
    · subst z; rw [List.getElem?_set_self (List.getElem?_eq_some_iff.mp h1).1, h1]
    · rw [List.getElem?_set_ne z]
  have sm : Same F (upd F p (.lst vs)) := fun b u e => by rw [upd_ne (ne_of_none e fp)]; exact e
  have sH : Same (upd F p (.lst vs)) H := fun b u e => by
    by_cases z : b = p
    · subst z; rw [upd_same] at e; cases e; exact ho
    · rw [upd_ne z] at e; exact g.sub b u e
  have sub := owns_put (o := some (.ref p)) (s := vl xs) trivial (σ := σ) (sl := sl) j
  have subO := ownO_put (o := some (.ref p)) (s := vl xs) trivial (σ := σ) (sl := sl) j
  rw [eσ] at sub subO
  have np : p ∉ owns σ (sl.set j (vl xs)) := by
    have aux : ∀ {σ : St} {sl : List Slot} {j : Nat}, Slots F H σ sl → (owns σ sl).Nodup → sl[j]? = some (.own (cl xs)) → σ[j]? = some (some (.ref p)) → p ∈ owns σ sl ∧ p ∉ owns σ (sl.set j (vl xs)) := by
      intro σ
      induction σ with
      | nil => intro sl j _ _ _ h; simp at h
      | cons o σ ih =>
        intro sl j hs hn ha hb
        cases sl with
        | nil => simp at ha
        | cons s sl =>
          cases j with
          | zero =>
            simp at ha hb
            subst ha; subst hb
            exact ⟨List.mem_append.mpr (.inl (by simp)), (List.nodup_cons.mp hn).1⟩
          | succ j =>
            have n2 : (owns σ sl).Nodup := by
              cases s with
              | no => exact hn
              | val _ => exact hn
              | own _ => exact hn.sublist (List.sublist_append_right _ _)
              | par _ _ => exact (List.nodup_cons.mp hn).2
            obtain ⟨i1, i2⟩ := ih (sl := sl) (j := j) hs.2 n2 (by simpa using ha) (by simpa using hb)
            show p ∈ owns (o :: σ) (s :: sl) ∧ p ∉ owns (o :: σ) (s :: sl.set j (vl xs))
            cases s with
            | no => exact ⟨i1, i2⟩
            | val _ => exact ⟨i1, i2⟩
            | own d =>
              refine ⟨List.mem_append.mpr (.inr i1), fun z => ?_⟩
              rcases List.mem_append.mp z with y | y
              · exact (List.nodup_append.mp hn).2.2 p y p i1 rfl
              · exact i2 y
            | par q d =>
              refine ⟨List.mem_cons.mpr (.inr i1), fun z => ?_⟩
              rcases List.mem_cons.mp z with y | y
              · subst y; exact (List.nodup_cons.mp hn).1 i1
              · exact i2 y
    exact (aux g.ok g.nd hj h1).2
  have put : Slots (upd F p (.lst vs)) H σ (sl.set j (vl xs)) := by
    have z := Slots.put (F := F) (H := H) (o := some (.ref p)) (s := .no) trivial j g.ok
    rw [eσ] at z
    have sub2 := owns_put (o := some (.ref p)) (s := .no) trivial (σ := σ) (sl := sl) j
    rw [eσ] at sub2
    have e2 : owns σ (sl.set j .no) = owns σ (sl.set j (vl xs)) := owns_kd (by
      rw [List.map_set, List.map_set]
      rfl)
    have z2 : Slots (upd F p (.lst vs)) H σ (sl.set j .no) := Slots.step sm z fun q hq => ⟨by
      rw [upd_ne fun y => np (by rw [← e2, ← y]; exact hq)]
      exact (Slots.owned z q hq).1, rfl⟩
    have z3 := Slots.put (o := some (.ref p)) (s := vl xs) (F := upd F p (.lst vs)) (H := H) ⟨.ref p, rfl, p, vs, rfl, upd_same, hr.mono sm⟩ j z2
    rw [eσ, List.set_set] at z3
    exact z3
  have rN : Reg (upd F p (.lst vs)) H σ (sl.set j (vl xs)) := ⟨sH, g.nd.sublist sub, put⟩
  have st : Stp (owns σ sl) F H (upd F p (.lst vs)) H := ⟨sm, fun _ _ h _ => h, fun _ h => h, fun b hb => by
    by_cases z : b = p
    · subst z; exact .inr (.inr hm)
    · rw [upd_ne z] at hb; exact .inl hb⟩
  exact a2 σ _ H D rN (m.step g st ⟨fun q hq => .inl (subO.subset hq), parO_put (fun _ _ => by intro h; cases h) j⟩)
end
end Wk

/-! Wk6: loops and comprehensions over sources; calls and promises. -/
namespace Wk
open PySem L2

/-! ### weaker slots -/
def Wks : List Slot → List Slot → Prop
  | [], [] => True
  | s :: sl, t :: sl' => (t = s ∨ t = .no) ∧ Wks sl sl'
  | _, _ => False
theorem Wks.refl : ∀ sl : List Slot, Wks sl sl
  | [] => trivial
  | _ :: sl => ⟨.inl rfl, Wks.refl sl⟩
section
variable {F H : Hp}
theorem Wks.slots : ∀ {σ : St} {sl sl' : List Slot}, Wks sl sl' → Slots F H σ sl → Slots F H σ sl'
  | [], [], [], _, _ => trivial
  | [], _ :: _, [], h, _ => h.elim
  | [], [], _ :: _, h, _ => h.elim
  | [], _ :: _, _ :: _, _, h => h.elim
  | _ :: _, [], _, _, h => h.elim
  | o :: σ, s :: sl, [], h, _ => h.elim
  | o :: σ, s :: sl, t :: sl', w, h => ⟨by
      rcases w.1 with e | e
      · rw [e]; exact h.1
      · rw [e]; trivial, Wks.slots (σ := σ) w.2 h.2⟩
theorem Wks.owns : ∀ {σ : St} {sl sl' : List Slot}, Wks sl sl' → (owns σ sl').Sublist (owns σ sl)
  | [], [], [], _ => List.Sublist.refl _
  | [], _ :: _, [], h => h.elim
  | [], [], _ :: _, h => h.elim
  | [], _ :: _, _ :: _, _ => by simp [Wk.owns]
  | _ :: _, [], [], _ => List.Sublist.refl _
  | _ :: _, [], _ :: _, h => h.elim
  | o :: σ, s :: sl, [], h => h.elim
  | o :: σ, s :: sl, t :: sl', w => by
    have ih := Wks.owns (σ := σ) w.2
    rcases w.1 with e | e
    · subst e
      cases t with
      | no => exact ih
      | val _ => exact ih
      | own _ => exact (List.Sublist.refl _).append ih
      | par q _ => exact ih.cons_cons q
    · subst e
      show (Wk.owns σ sl').Sublist (Wk.owns (o :: σ) (s :: sl))
      cases s with
      | no => exact ih
      | val _ => exact ih
      | own _ => exact ih.trans (List.sublist_append_right _ _)
      | par q _ => exact ih.trans (List.sublist_cons_self _ _)
theorem Wks.ownO : ∀ {σ : St} {sl sl' : List Slot}, Wks sl sl' → (ownO σ sl').Sublist (ownO σ sl)
  | [], [], [], _ => List.Sublist.refl _
  | [], _ :: _, [], h => h.elim
  | [], [], _ :: _, h => h.elim
  | [], _ :: _, _ :: _, _ => by simp [Wk.ownO]
  | _ :: _, [], [], _ => List.Sublist.refl _
  | _ :: _, [], _ :: _, h => h.elim
  | o :: σ, s :: sl, [], h => h.elim
  | o :: σ, s :: sl, t :: sl', w => by
    have ih := Wks.ownO (σ := σ) w.2
    rcases w.1 with e | e
    · subst e
      cases t with
      | no => exact ih
      | val _ => exact ih
      | own _ => exact (List.Sublist.refl _).append ih
      | par q _ => exact ih
    · subst e
      show (Wk.ownO σ sl').Sublist (Wk.ownO (o :: σ) (s :: sl))
      cases s with
      | no => exact ih
      | val _ => exact ih
      | own _ => exact ih.trans (List.sublist_append_right _ _)
      | par q _ => exact ih
theorem Wks.parO : ∀ {sl sl' : List Slot}, Wks sl sl' → ∀ p ∈ parO sl', p ∈ parO sl
  | [], [], _, p, h => h
  | [], _ :: _, h, _, _ => h.elim
  | _ :: _, [], h, _, _ => h.elim
  | s :: sl, t :: sl', w, p, h => by
    have ih := Wks.parO w.2
    rcases w.1 with e | e
    · subst e
      cases t with
      | par q _ =>
        rcases List.mem_cons.mp h with z | z
        · exact List.mem_cons.mpr (.inl z)
        · exact List.mem_cons.mpr (.inr (ih p z))
      | _ => exact ih p h
    · subst e
      have h' : p ∈ Wk.parO sl' := h
      cases s with
      | par q _ => exact List.mem_cons.mpr (.inr (ih p h'))
      | _ => exact ih p h'
theorem Reg.wk {σ : St} {sl sl' : List Slot} (r : Reg F H σ sl) (w : Wks sl sl') : Reg F H σ sl' ∧ OwnOk σ sl H σ sl' :=
  ⟨⟨r.sub, r.nd.sublist w.owns, w.slots r.ok⟩, fun p h => .inl (w.ownO.subset h), w.parO⟩
end
theorem go_wk {ρ : Type} [Rep ρ] {t : TS} {sl sl1 sl2 : List Slot} (h : Go t sl (.next sl1 : Out ρ)) (w : Wks sl1 sl2) : Go t sl (.next sl2 : Out ρ) := fun σ F H D g m =>
  h σ F H D g fun σ1 F1 H1 s g1 o => m σ1 F1 H1 s (g1.wk w).1 (o.trans (F := F) (F1 := F1) (g1.wk w).2 fun p z => s.free z)

/-! ### sources -/
def Wlk {α : Type} [Rep α] (J : It) (F : Hp) (xs : List α) : Prop := ∃ (Gd : Hp → Prop) (Y : Nat → Hp → V → Hp → Prop), Walk J xs.length Gd Y ∧ (∀ F1 H1, Same F F1 → Same F1 H1 → Gd H1) ∧
  ∀ i H1 x H2 F1 a, xs[i]? = some a → Same F F1 → Same F1 H1 → Y i H1 x H2 → ∃ F2, Stp [] F1 H1 F2 H2 ∧ Same F2 H2 ∧ Rep.rep F2 x a
theorem Wlk.of {α : Type} [Rep α] {J : It} {F : Hp} {xs : List α} {n : Nat} {Gd : Hp → Prop} {Y : Nat → Hp → V → Hp → Prop} (w : Walk J n Gd Y) (hn : n = xs.length) (hG : ∀ F1 H1, Same F F1 → Same F1 H1 → Gd H1)
    (hY : ∀ i H1 x H2 F1 a, xs[i]? = some a → Same F F1 → Same F1 H1 → Y i H1 x H2 → ∃ F2, Stp [] F1 H1 F2 H2 ∧ Same F2 H2 ∧ Rep.rep F2 x a) : Wlk J F xs := by
  subst hn
  exact ⟨Gd, Y, w, hG, hY⟩
def Src {ι : Type} (X : ι → Cx) (tg iter : Expr) (sl sl1 : List Slot) {α : Type} [Rep α] (xs : List α) : Prop :=
  ∃ wi, (∀ i, PI (X i) tg iter wi) ∧ (∀ i x, foldedSetIterable iter (X i).env x = pure x) ∧ sl.map Slot.kd = sl1.map Slot.kd ∧
    ∀ σ F H, Reg F H σ sl → ∀ R : It → Hp → Prop, (∀ J F' H', Stp (owns σ sl) F H F' H' → Reg F' H' σ sl1 → Wlk J F' xs → R J H') → wi σ H R

section
variable {ι : Type} {X : ι → Cx} {S : Sit} (f : Fam X S) {sl sl1 sl2 : List Slot} {α β : Type} [Rep α] [Rep β] {e e1 e2 tg : Expr} {pos p1 p2 : Pos}
theorem src_list (f : Fam X S) {xs : List α} (h : E X e sl sl1 xs) (hs : ∀ i x, foldedSetIterable e (X i).env x = pure x := by intro _ _; rfl) : Src X tg e sl sl1 xs := by
  obtain ⟨te, h1, h2⟩ := h
  refine ⟨iList S.K te, fun i => ?_, hs, h2.1, fun σ F H r R q => h2.2 σ F H r _ fun v F1 H1 s1 r1 hv => ?_⟩
  · have z := pi_list (tg := tg) (h1 i)
    rw [f.K i] at z
    exact z
  · obtain ⟨p, vs, rfl, hp, hr⟩ := hv
    refine ⟨p, rfl, ⟨vs, SqL.of (r1.sub _ _ hp)⟩, q _ F1 H1 s1 r1 (Wlk.of (walk_list (K := S.K) (a := p) (xs := vs)) hr.len (fun F2 H2 s2 s3 => SqL.of (s3 _ _ (s2 _ _ hp))) ?_)⟩
    intro i H2 x H3 F2 a ha s2 s3 y
    obtain ⟨e, y2⟩ := y
    subst e
    obtain ⟨v, hv, rv⟩ := hr.get ha
    rw [hv] at y2
    cases y2
    exact ⟨F2, .refl _ _ _, s3, Rep.mono s2 rv⟩
theorem src_txt {l : Txt} (h : E X e sl sl1 l) (hs : ∀ i x, foldedSetIterable e (X i).env x = pure x := by intro _ _; rfl) : Src X tg e sl sl1 (l.map fun c => ([c] : Txt)) := by
  obtain ⟨te, h1, h2⟩ := h
  refine ⟨iStr te, fun i => pi_str (h1 i), hs, h2.1, fun σ F H r R q => h2.2 σ F H r _ fun v F1 H1 s1 r1 hv => ?_⟩
  refine ⟨tx l, hv, q _ F1 H1 s1 r1 (Wlk.of (walk_str (z := tx l)) (by simp [tx]) (fun _ _ _ _ => trivial) ?_)⟩
  · intro i H2 x H3 F2 a ha s2 s3 y
    obtain ⟨e, c, hc, rfl⟩ := y
    subst e
    refine ⟨F2, .refl _ _ _, s3, ?_⟩
    have hc' : l[i]? = some c := by simpa [tx] using hc
    rw [List.getElem?_map, hc'] at ha
    have ea : a = [c] := (Option.some.inj ha).symm
    subst ea
    rfl
/-- range(n) -/
theorem src_range1 (f : Fam X S) {n : Int} (h : E X e sl sl1 n) (hg : ∀ i, Gl (X i) "range") (hm : S.mg "range" = none) (hn : -(2 ^ 62) ≤ n ∧ n < 2 ^ 62)
    (ha : ∀ i, starEach [e] (X i).env = [(false, eval e (X i).env)] := by intro _; rfl) (hs : ∀ i x, foldedSetIterable (.Call (.Name "range" p1) [e] [] pos) (X i).env x = pure x := by intro _ _; rfl) :
    Src X tg (.Call (.Name "range" p1) [e] [] pos) sl sl1 ((List.range n.toNat).map fun k : Nat => (k : Int)) := by
  obtain ⟨te, h1, h2⟩ := h
  refine ⟨iRng1 (tCons te tNil), fun i => pi_range1 (hg i) (by rw [f.mg i]; exact hm) (pa_cons (h1 i) pa_nil (ha i)) (ha i), hs, h2.1, fun σ F H r R q => h2.2 σ F H r _ fun v F1 H1 s1 r1 hv => ?_⟩
  have hv' : v = V.int n := hv
  subst hv'
  refine ⟨n, rfl, hn.1, hn.2, q _ F1 H1 s1 r1 (Wlk.of (walk_range (lo := 0) (n := n.toNat)) (by simp) (fun _ _ _ _ => trivial) ?_)⟩
  · intro i H2 x H3 F2 a ha s2 s3 y
    obtain ⟨e, rfl⟩ := y
    subst e
    refine ⟨F2, .refl _ _ _, s3, ?_⟩
    rw [List.getElem?_map] at ha
    cases hr : (List.range n.toNat)[i]? with
    | none => rw [hr] at ha; cases ha
    | some k =>
      rw [hr] at ha
      have ek : k = i := by
        have := List.getElem?_eq_some_iff.mp hr
        obtain ⟨h1, h2⟩ := this
        simpa using h2.symm
      have ea : a = ((i : Nat) : Int) := by rw [← ek]; exact (Option.some.inj ha).symm
      subst ea
      show V.int (0 + (i : Int)) = V.int (i : Int)
      rw [Int.zero_add]
theorem src_range2 (f : Fam X S) {m n : Int} (h : E X e1 sl sl1 m) (h' : E X e2 sl1 sl2 n) (hg : ∀ i, Gl (X i) "range") (hm : S.mg "range" = none) (hn : -(2 ^ 62) ≤ m ∧ m < 2 ^ 62 ∧ -(2 ^ 62) ≤ n ∧ n < 2 ^ 62)
    (ha : ∀ i, starEach [e1, e2] (X i).env = [(false, eval e1 (X i).env), (false, eval e2 (X i).env)] := by intro _; rfl) (hb : ∀ i, starEach [e2] (X i).env = [(false, eval e2 (X i).env)] := by intro _; rfl) (hs : ∀ i x, foldedSetIterable (.Call (.Name "range" p1) [e1, e2] [] pos) (X i).env x = pure x := by intro _ _; rfl) :
    Src X tg (.Call (.Name "range" p1) [e1, e2] [] pos) sl sl2 ((List.range (n - m).toNat).map fun k : Nat => m + (k : Int)) := by
  obtain ⟨te, h1, h2⟩ := h
  obtain ⟨tf, k1, k2⟩ := h'
  refine ⟨iRng2 (tCons te (tCons tf tNil)), fun i => pi_range2 (hg i) (by rw [f.mg i]; exact hm) (pa_cons (h1 i) (pa_cons (k1 i) pa_nil (hb i)) (by rw [ha i, hb i])) (ha i) (hb i), hs, h2.1.trans k2.1, fun σ F H r R q => ev2 h2 k2 r fun x y F1 H1 s1 r1 hx hy => ?_⟩
  have hx' : x = V.int m := hx
  have hy' : y = V.int n := hy
  subst hx' hy'
  refine ⟨m, n, rfl, hn, q _ F1 H1 s1 r1 (Wlk.of (walk_range (lo := m) (n := (n - m).toNat)) (by simp) (fun _ _ _ _ => trivial) ?_)⟩
  · intro i H2 x H3 F2 a ha s2 s3 y
    obtain ⟨e, rfl⟩ := y
    subst e
    refine ⟨F2, .refl _ _ _, s3, ?_⟩
    rw [List.getElem?_map] at ha
    cases hr : (List.range (n - m).toNat)[i]? with
    | none => rw [hr] at ha; cases ha
    | some k =>
      rw [hr] at ha
      have ek : k = i := by
        obtain ⟨h1, h2⟩ := List.getElem?_eq_some_iff.mp hr
        simpa using h2.symm
      have ea : a = m + ((i : Nat) : Int) := by rw [← ek]; exact (Option.some.inj ha).symm
      subst ea
      rfl
end

/-! ### for -/
/-- what a turn comes to: the next state; a break in a state; an end -/
inductive LO (τ ρ : Type) where
  | nx (t : τ)
  | bk (t : τ)
  | rt (r : ρ) (sl : List Slot)
def loopC {τ α ρ : Type} (step : τ → α → LO τ ρ) : τ → List α → LO τ ρ
  | t, [] => .nx t
  | t, x :: xs => match step t x with
    | .nx t' => loopC step t' xs
    | r => r
def LO.out {τ ρ : Type} (St : τ → List Slot) : LO τ ρ → Out ρ
  | .nx t => .next (St t)
  | .bk t => .next (St t)
  | .rt r sl => .ret r sl
/-- a turn's block comes to it -/
def Turn1 {ι : Type} (X : ι → Cx) (body : List Stmt) {τ ρ : Type} [Rep ρ] (St : τ → List Slot) (s : List Slot) : LO τ ρ → Prop
  | .nx t => ∃ s1, (G X body s (.next s1 : Out ρ) ∨ G X body s (.cont s1 : Out ρ)) ∧ Wks s1 (St t)
  | .bk t => ∃ s1, G X body s (.brk s1 : Out ρ) ∧ Wks s1 (St t)
  | .rt r sl => G X body s (.ret r sl)
section
variable {ι : Type} {X : ι → Cx} {S : Sit} {sl sl1 sl2 : List Slot} {α β τ ρ : Type} [Rep α] [Rep β] [Rep ρ] {e e1 e2 tg iter : Expr} {pos p1 p2 : Pos} {body : List Stmt}
theorem g1_for (f : Fam X S) {xs : List α} (St : τ → List Slot) (t0 : τ) (sb : α → τ → List Slot) (step : τ → α → LO τ ρ) (Inv : Nat → τ → Prop) (hsrc : Src X tg iter sl sl1 xs) (h0 : Wks sl1 (St t0)) (i0 : Inv 0 t0)
    {js : List Nat} (htg : ∀ x t, Tg X tg js x (St t) (sb x t)) (hb : ∀ i t x, xs[i]? = some x → Inv i t → Turn1 X body St (sb x t) (step t x) ∧ ∀ t', step t x = .nx t' → Inv (i + 1) t') :
    G1 X (.For tg iter body [] pos) sl ((loopC step t0 xs).out St) := by
  obtain ⟨wi, w1, w2, w3, w4⟩ := hsrc
  -- one target for all
  let g : TG := fun v σ H Q => ∃ g, (∀ i, PG (X i) tg g) ∧ g v σ H Q
  have hg : ∀ i, PG (X i) tg g := fun i => ⟨fun pins s σ H v u Q I r h => by
    obtain ⟨g, a, b⟩ := h
    exact (a i).run pins s σ H v u Q I r b⟩
  refine ⟨_, fun i => ps_for (by rw [f.xe i]; exact PassesOwn.never) (f.calm i) (w1 i) (hg i) (uS_ok i) (w2 i), fun σ F H D r m => w4 σ F H r _ fun J F1 H1 s1 r1 hw => ?_⟩
  obtain ⟨Gd, Y, wk, hG, hY⟩ := hw
  have r1' := r1.wk h0
  have o1 : OwnOk σ sl H σ (St t0) := (OwnOk.same w3).trans (F := F) (F1 := F1) r1'.2 fun p z => s1.free z
  refine for_it (g := g) wk (fun i σ' H' => ∃ t F', Stp (owns σ sl) F H F' H' ∧ Reg F' H' σ' (St t) ∧ OwnOk σ sl H σ' (St t) ∧ Same F1 F' ∧ Inv i t ∧ loopC step t (xs.drop i) = loopC step t0 xs) ⟨t0, F1, s1, r1'.1, o1, .refl _, i0, rfl⟩ (fun i σ' H' _ ⟨t, F', _, r', _, sm, _, _⟩ => hG F' H' sm r'.sub) ?_ ?_
  · rintro i x σ' H' H2 hi ⟨t, F', s', r', o', sm, iv, eq⟩ y
    have ha : xs[i]? = some xs[i] := List.getElem?_eq_getElem hi
    obtain ⟨F2, sF, sm2, rx⟩ := hY i H' x H2 F' xs[i] ha sm r'.sub y
    have rB : Reg F2 H2 σ' (St t) := r'.grow sF sm2
    obtain ⟨g', q1, q2⟩ := htg xs[i] t
    refine ⟨g', q1, q2 σ' F2 H2 x rB rx _ fun σ3 r3 o3 own3 _ => ?_⟩
    have sT : Stp (owns σ sl) F H F2 H2 := s'.trans sF fun p hp => by simp at hp
    have o4 : OwnOk σ sl H σ3 (sb xs[i] t) := o'.trans (F := F) (F1 := F') (H1 := H2) o3 fun p z => sT.free z
    obtain ⟨tr, inx⟩ := hb i t xs[i] ha iv
    have ed : xs.drop i = xs[i] :: xs.drop (i + 1) := List.drop_eq_getElem_cons hi
    rw [ed] at eq
    have eq' : (match step t xs[i] with | .nx t' => loopC step t' (xs.drop (i + 1)) | r => r) = loopC step t0 xs := eq
    cases hs : step t xs[i] with
    | nx t' =>
      rw [hs] at tr eq'
      obtain ⟨s1', hgo, hwk⟩ := tr
      have fin : ∀ σ4 F4 H4, Stp (owns σ3 (sb xs[i] t)) F2 H2 F4 H4 → Reg F4 H4 σ4 s1' → OwnOk σ3 (sb xs[i] t) H2 σ4 s1' → ∃ t F', Stp (owns σ sl) F H F' H4 ∧ Reg F' H4 σ4 (St t) ∧ OwnOk σ sl H σ4 (St t) ∧ Same F1 F' ∧ Inv (i + 1) t ∧ loopC step t (xs.drop (i + 1)) = loopC step t0 xs := by
        intro σ4 F4 H4 s4 r4 o5
        have r5 := r4.wk hwk
        exact ⟨t', F4, sT.trans s4 (o4.owns r), r5.1, (o4.trans (F := F) (F1 := F2) o5 fun p z => sT.free z).trans (F := F) (F1 := F4) r5.2 (fun p z => (sT.trans s4 (o4.owns r)).free z), sm.trans (sF.fr.trans s4.fr), inx t' hs, eq'⟩
      rcases hgo with hgo | hgo
      · exact hgo.u σ3 F2 H2 _ r3 fun σ4 F4 H4 s4 r4 o5 => fin σ4 F4 H4 s4 r4 o5
      · exact hgo.u σ3 F2 H2 _ r3 fun σ4 F4 H4 s4 r4 o5 => fin σ4 F4 H4 s4 r4 o5
    | bk t' =>
      rw [hs] at tr eq'
      have e0 : loopC step t0 xs = .bk t' := eq'.symm
      rw [e0] at m
      obtain ⟨s1', hgo, hwk⟩ := tr
      refine hgo.u σ3 F2 H2 _ r3 fun σ4 F4 H4 s4 r4 o5 => ?_
      have r5 := r4.wk hwk
      exact m σ4 F4 H4 (sT.trans s4 (o4.owns r)) r5.1 ((o4.trans (F := F) (F1 := F2) o5 fun p z => sT.free z).trans (F := F) (F1 := F4) r5.2 (fun p z => (sT.trans s4 (o4.owns r)).free z))
    | rt v sl' =>
      rw [hs] at tr eq'
      have e0 : loopC step t0 xs = .rt v sl' := eq'.symm
      rw [e0] at m
      refine tr.u σ3 F2 H2 _ r3 fun w σ4 F4 H4 s4 r4 o5 hv => ?_
      exact m w σ4 F4 H4 (sT.trans s4 (o4.owns r)) r4 (o4.trans (F := F) (F1 := F2) o5 fun p z => sT.free z) hv
  · rintro σ' H' ⟨t, F', s', r', o', sm, iv, eq⟩
    have e0 : loopC step t0 xs = .nx t := by
      rw [← eq, List.drop_length]
      rfl
    rw [e0] at m
    exact m σ' F' H' s' r' o'
/-- a for that runs through -/
theorem g1_forN (f : Fam X S) {xs : List α} (St : τ → List Slot) (t0 tE : τ) (sb : α → τ → List Slot) (step : τ → α → τ) (Inv : Nat → τ → Prop) (hsrc : Src X tg iter sl sl1 xs) (h0 : Wks sl1 (St t0)) (i0 : Inv 0 t0) (hE : xs.foldl step t0 = tE)
    {js : List Nat} (htg : ∀ x t, Tg X tg js x (St t) (sb x t)) (hb : ∀ i t x, xs[i]? = some x → Inv i t → (∃ s1, (G X body (sb x t) (.next s1 : Out ρ) ∨ G X body (sb x t) (.cont s1 : Out ρ)) ∧ Wks s1 (St (step t x))) ∧ Inv (i + 1) (step t x)) :
    G1 X (.For tg iter body [] pos) sl (.next (St tE) : Out ρ) := by
  have e : ∀ (xs : List α) (t : τ), loopC (fun t x => (.nx (step t x) : LO τ ρ)) t xs = .nx (xs.foldl step t) := by
    intro xs
    induction xs with
    | nil => intro t; rfl
    | cons x xs ih => intro t; exact ih (step t x)
  have k := g1_for (pos := pos) f St t0 sb (fun t x => (.nx (step t x) : LO τ ρ)) Inv hsrc h0 i0 htg (fun i t x hx iv => ⟨(hb i t x hx iv).1, fun t' ht => by
    have : step t x = t' := by injection ht
    rw [← this]
    exact (hb i t x hx iv).2⟩)
  rw [e, hE] at k
  exact k
end
end Wk

/-! Wk7: comprehensions. -/
namespace Wk
open PySem L2

/-- σ and σ' agree where sl speaks -/
def Agree (sl : List Slot) (σ σ' : St) : Prop := σ.length = σ'.length ∧ ∀ (k : Nat) (s : Slot), sl[k]? = some s → s ≠ Slot.no → σ[k]? = σ'[k]?
section
variable {F H : Hp}
theorem Agree.tail {s : Slot} {sl : List Slot} {o o' : Option V} {σ σ' : St} (h : Agree (s :: sl) (o :: σ) (o' :: σ')) : Agree sl σ σ' :=
  ⟨by simpa using h.1, fun k t ht hn => by simpa using h.2 (k + 1) t (by simpa using ht) hn⟩
theorem Agree.head {s : Slot} {sl : List Slot} {o o' : Option V} {σ σ' : St} (h : Agree (s :: sl) (o :: σ) (o' :: σ')) (hn : s ≠ Slot.no) : o = o' := by
  simpa using h.2 0 s (by simp) hn
theorem Agree.slots : ∀ {sl : List Slot} {σ σ' : St}, Agree sl σ σ' → Slots F H σ sl → Slots F H σ' sl ∧ owns σ sl = owns σ' sl ∧ ownO σ sl = ownO σ' sl
  | [], [], [], _, _ => ⟨trivial, rfl, rfl⟩
  | [], [], _ :: _, h, _ => by simp [Agree] at h
  | [], _ :: _, _, _, h => h.elim
  | _ :: _, [], _, _, h => h.elim
  | _ :: _, _ :: _, [], h, _ => by simp [Agree] at h
  | s :: sl, o :: σ, o' :: σ', h, hs => by
    obtain ⟨i1, i2, i3⟩ := Agree.slots h.tail hs.2
    cases s with
    | no => exact ⟨⟨trivial, i1⟩, i2, i3⟩
    | val q =>
      have e := h.head (by intro z; cases z)
      subst e
      exact ⟨⟨hs.1, i1⟩, i2, i3⟩
    | own c =>
      have e := h.head (by intro z; cases z)
      subst e
      exact ⟨⟨hs.1, i1⟩, by simp only [owns, i2], by simp only [ownO, i3]⟩
    | par p c =>
      have e := h.head (by intro z; cases z)
      subst e
      exact ⟨⟨hs.1, i1⟩, by simp only [owns, i2], i3⟩
theorem Reg.agree {σ σ' : St} {sl : List Slot} (r : Reg F H σ sl) (h : Agree sl σ σ') : Reg F H σ' sl ∧ owns σ sl = owns σ' sl ∧ ownO σ sl = ownO σ' sl := by
  obtain ⟨i1, i2, i3⟩ := h.slots r.ok
  exact ⟨⟨r.sub, by rw [← i2]; exact r.nd, i1⟩, i2, i3⟩
theorem wipe_get : ∀ {vs : List Nat} {σ : St} {k : Nat}, k ∉ vs → (wipe σ vs)[k]? = σ[k]?
  | [], _, _, _ => rfl
  | v :: vs, σ, k, h => by
    show ((wipe σ vs).set v none)[k]? = _
    rw [List.getElem?_set_ne (fun e => h (by rw [e]; exact List.mem_cons_self))]
    exact wipe_get fun z => h (List.mem_cons_of_mem _ z)
theorem wipe_in : ∀ {vs : List Nat} {σ : St} {k : Nat}, k ∈ vs → k < σ.length → (wipe σ vs)[k]? = some none
  | v :: vs, σ, k, h, hk => by
    show ((wipe σ vs).set v none)[k]? = _
    by_cases e : v = k
    · subst e
      rw [List.getElem?_set_self (by rw [wipe_length]; exact hk)]
    · rw [List.getElem?_set_ne e]
      exact wipe_in ((List.mem_cons.mp h).resolve_left fun z => e z.symm) hk
theorem wipe_ext {vs : List Nat} {σ σ' : St} (hl : σ'.length = σ.length) (h : ∀ k, k ∉ vs → σ'[k]? = σ[k]?) : wipe σ' vs = wipe σ vs := by
  refine List.ext_getElem? fun k => ?_
  by_cases hk : k ∈ vs
  · by_cases hlt : k < σ.length
    · rw [wipe_in hk hlt, wipe_in hk (by rw [hl]; exact hlt)]
    · rw [List.getElem?_eq_none (by rw [wipe_length]; omega), List.getElem?_eq_none (by rw [wipe_length]; omega)]
  · rw [wipe_get hk, wipe_get hk, h k hk]
theorem wipe_wipe {vs : List Nat} {σ : St} : wipe (wipe σ vs) vs = wipe σ vs := wipe_ext (wipe_length _ _) fun k hk => wipe_get hk
theorem agree_wipe {vs : List Nat} {σ : St} {sl : List Slot} (h : ∀ j ∈ vs, ∀ s, sl[j]? = some s → s = Slot.no) : Agree sl σ (wipe σ vs) :=
  ⟨(wipe_length _ _).symm, fun k s hs hn => (wipe_get fun hk => hn (h k hk s hs)).symm⟩
end

def blkF {ι : Type} (X : ι → Cx) (scope : Scope) : ι × Shared × Hp × Addr × List (Str × Addr) × List Addr → Cx :=
  fun i => (X i.1).blk i.2.1 i.2.2.1 scope (compEnvC scope i.2.2.2.2.1 i.2.2.2.1 (X i.1).env) i.2.2.2.2.2
theorem Fam.blk {ι : Type} {X : ι → Cx} {S : Sit} (f : Fam X S) (scope : Scope) : Fam (blkF X scope) S :=
  ⟨fun i => f.P i.1, fun i => f.w i.1, fun i => f.K i.1, fun i => f.mg i.1, fun i => f.base i.1, fun i => f.N i.1, fun i => f.calm i.1, fun i => f.room i.1, fun _ => rfl, f.nd, fun i => f.gd i.1⟩
/-- the ifs of a comprehension -/
def TIf {ι : Type} (X : ι → Cx) (ifs : List Expr) (sl sl1 : List Slot) (b : Bool) : Prop := ∃ tt, (∀ i, PTs (X i) ifs tt) ∧ EvT tt sl sl1 b
theorem ti_nil {ι : Type} {X : ι → Cx} {sl : List Slot} : TIf X [] sl sl true := ⟨tYes, fun _ => pts_nil, rfl, fun σ F H r Q q => q F H (.refl _ _ _) r⟩
theorem ti_one {ι : Type} {X : ι → Cx} {sl sl1 : List Slot} {e : Expr} {b : Bool} (h : T X e sl sl1 b) : TIf X [e] sl sl1 b := by
  obtain ⟨t, h1, h2⟩ := h
  exact ⟨_, fun i => pts_one (h1 i), h2⟩

def lcC {τ α β : Type} (step : τ → α → τ × Option β) : τ → List α → τ × List β
  | t, [] => (t, [])
  | t, x :: xs => ((lcC step (step t x).1 xs).1, (step t x).2.toList ++ (lcC step (step t x).1 xs).2)
theorem lcC_app {τ α β : Type} (step : τ → α → τ × Option β) : ∀ (t : τ) (xs ys : List α), lcC step t (xs ++ ys) = ((lcC step (lcC step t xs).1 ys).1, (lcC step t xs).2 ++ (lcC step (lcC step t xs).1 ys).2)
  | t, [], ys => rfl
  | t, x :: xs, ys => by
    have ih := lcC_app step (step t x).1 xs ys
    show ((lcC step (step t x).1 (xs ++ ys)).1, (step t x).2.toList ++ (lcC step (step t x).1 (xs ++ ys)).2) = _
    rw [ih]
    simp [lcC]
theorem lcC_len {τ α β : Type} (step : τ → α → τ × Option β) : ∀ (t : τ) (xs : List α), (lcC step t xs).2.length ≤ xs.length
  | t, [] => Nat.le_refl _
  | t, x :: xs => by
    have ih := lcC_len step (step t x).1 xs
    show ((step t x).2.toList ++ (lcC step (step t x).1 xs).2).length ≤ _
    rw [List.length_append]
    have : (step t x).2.toList.length ≤ 1 := by cases (step t x).2 <;> simp
    simp only [List.length_cons]
    omega
/-- what the turn of a comprehension comes to -/
def LTurn {ι : Type} (X : ι → Cx) (ifs : List Expr) (elt : Expr) {τ β : Type} [Rep β] (St : τ → List Slot) (s0 : List Slot) : τ × Option β → Prop
  | (t, none) => ∃ s1, TIf X ifs s0 s1 false ∧ Wks s1 (St t)
  | (t, some b) => ∃ s1 s2, TIf X ifs s0 s1 true ∧ E X elt s1 s2 b ∧ Wks s2 (St t)

def uTI {ι : Type} (X : ι → Cx) (es : List Expr) : TT := fun σ H Q => ∃ te, (∀ i, PTs (X i) es te) ∧ te σ H Q
theorem uTI_ok {ι : Type} {X : ι → Cx} {es : List Expr} (i : ι) : PTs (X i) es (uTI X es) := ⟨fun pins s σ H Q I h => by
  obtain ⟨te, h1, h2⟩ := h
  exact (h1 i).run pins s σ H Q I h2⟩
theorem TIf.u {ι : Type} {X : ι → Cx} {es : List Expr} {sl sl1 : List Slot} {b : Bool} (h : TIf X es sl sl1 b) : EvT (uTI X es) sl sl1 b := by
  obtain ⟨te, h1, h2⟩ := h
  exact ⟨h2.1, fun σ F H r Q q => ⟨te, h1, h2.2 σ F H r Q q⟩⟩

section
variable {ι : Type} {X : ι → Cx} {S : Sit} {sl sl1 sl2 : List Slot} {α β τ ρ : Type} [Rep α] [Rep β] [Rep ρ] {e e1 e2 tg iter elt : Expr} {ifs : List Expr} {pos p1 p2 spos : Pos} {scope : Scope}
/-- the reading of a comprehension -/
theorem evn_lc {X' : (ι × Shared × Hp × Addr × List (Str × Addr) × List Addr) → Cx} {xs : List α} {wi : TI} {g : TG} {vs js : List Nat} (St : τ → List Slot) (t0 : τ) (sb : α → τ → List Slot) (step : τ → α → τ × Option β)
    (hsrc : sl.map Slot.kd = sl1.map Slot.kd ∧ ∀ σ F H, Reg F H σ sl → ∀ R : It → Hp → Prop, (∀ J F' H', Stp (owns σ sl) F H F' H' → Reg F' H' σ sl1 → Wlk J F' xs → R J H') → wi σ H R) (h0 : Wks sl1 (St t0)) (hk : sl1.map Slot.kd = (St t0).map Slot.kd)
    (hg : ∀ x t, ∀ σ F H v, Reg F H σ (St t) → Rep.rep F v x → ∀ Q : L2.St → Hp → Prop, (∀ σ', Reg F H σ' (sb x t) → OwnOk σ (St t) H σ' (sb x t) → (∀ p ∈ owns σ' (sb x t), p ∈ owns σ (St t)) → (∀ k, k ∉ js → σ'[k]? = σ[k]?) → Q σ' H) → g v σ H Q)
    (hjs : ∀ j ∈ js, j ∈ vs) (hno : ∀ t, ∀ j ∈ vs, ∀ s, (St t)[j]? = some s → s = Slot.no) (hkd : ∀ t, (St t).map Slot.kd = (St t0).map Slot.kd) (hlen : xs.length ≤ 16777216)
    (hb : ∀ i t x, xs[i]? = some x → t = (lcC step t0 (xs.take i)).1 → LTurn X' ifs elt St (sb x t) (step t x)) :
    EvN (tLc wi g (uTI X' ifs) (uE X' elt) vs) sl (St (lcC step t0 xs).1) (cl (lcC step t0 xs).2) := by
  refine ⟨hsrc.1.trans (hk.trans (hkd _).symm), fun σ F H r Q q => hsrc.2 σ F H r _ fun J F1 H1 s1 r1 hw D hD => ?_⟩
  obtain ⟨Gd, Y, wk, hG, hY⟩ := hw
  have os : ∀ t, owns σ (St t) = owns σ sl := fun t => owns_kd ((hkd t).trans (hk.symm.trans hsrc.1.symm))
  have dF : F1 D = none := by
    cases z : F1 D with
    | none => rfl
    | some u => rw [r1.sub D u z] at hD; cases hD
  refine lc_it (g := g) wk (fun i H' => ∃ F' acc, Stp (owns σ sl) F H F' H' ∧ Reg F' H' σ (St (lcC step t0 (xs.take i)).1) ∧ Same F1 F' ∧ F' D = none ∧ H' D = some (.lst acc) ∧ Reps F' acc (lcC step t0 (xs.take i)).2) ⟨F1, [], s1.trans (stp_new (os := owns σ sl) hD) fun p hp => .inl hp, (r1.wk h0).1.new hD, .refl _, dF, upd_same, trivial⟩ (fun i H' _ ⟨F', acc, _, r', sm, _⟩ => hG F' H' sm r'.sub) ?_ ?_
  · rintro i x H' H2 hi ⟨F', acc, s', r', sm, dF', hacc, racc⟩ y
    have ha : xs[i]? = some xs[i] := List.getElem?_eq_getElem hi
    obtain ⟨F2, sF, sm2, rx⟩ := hY i H' x H2 F' xs[i] ha sm r'.sub y
    generalize ht : (lcC step t0 (xs.take i)).1 = t at r' hb
    have et : (lcC step t0 (xs.take (i + 1))) = ((step t xs[i]).1, (lcC step t0 (xs.take i)).2 ++ (step t xs[i]).2.toList) := by
      rw [List.take_succ, ha]
      show lcC step t0 (xs.take i ++ [xs[i]]) = _
      rw [lcC_app, ht]
      simp [lcC]
    have rB : Reg F2 H2 σ (St t) := r'.grow sF sm2
    have aw : Agree (St t) σ (wipe σ vs) := agree_wipe (hno t)
    obtain ⟨rW, oW, _⟩ := rB.agree aw
    refine hg xs[i] t (wipe σ vs) F2 H2 x rW rx _ fun σ3 r3 o3 own3 k3 => ?_
    have l3 : σ3.length = (wipe σ vs).length := by
      -- the slots tell the lengths
      have a1 := r3.len
      have a2 := rW.len
      have a3 := hb i t xs[i] ha (by rw [ht])
      have : (sb xs[i] t).length = (St t).length := by
        have b1 : ∀ (u : List Slot) (v : List Slot), u.map Slot.kd = v.map Slot.kd → u.length = v.length := fun u v h => by simpa using congrArg List.length h
        have b2 : ∀ (u v : List Slot), Wks u v → u.length = v.length := by
          intro u
          induction u with
          | nil => intro v h; cases v with
            | nil => rfl
            | cons _ _ => exact h.elim
          | cons s u ih => intro v h; cases v with
            | nil => exact h.elim
            | cons _ v => simp [ih v h.2]
        cases hs : step t xs[i] with
        | mk t' o =>
          rw [hs] at a3
          have e1 := b1 _ _ (hkd t')
          have e2 := b1 _ _ (hkd t)
          cases o with
          | none =>
            obtain ⟨u1, z1, z2⟩ := a3
            obtain ⟨_, _, z3⟩ := z1
            rw [b1 _ _ z3.1, b2 _ _ z2, e1, e2]
          | some b =>
            obtain ⟨u1, u2, z1, z2, z3⟩ := a3
            obtain ⟨_, _, z4⟩ := z1
            obtain ⟨_, _, z5⟩ := z2
            rw [b1 _ _ z4.1, b1 _ _ z5.1, b2 _ _ z3, e1, e2]
      rw [a1, a2, this]
    refine ⟨(wipe_ext l3 fun k hk => k3 k fun z => hk (hjs k z)).trans wipe_wipe, ?_⟩
    -- what the turn owns
    have own3' : ∀ p ∈ owns σ3 (sb xs[i] t), p ∈ owns σ sl := fun p hp => by
      rw [← os t, oW]
      exact own3 p hp
    have D3 : D ∉ owns σ3 (sb xs[i] t) := fun z => (Slots.owned r.ok D (own3' D z)).2 (s1.free hD)
    have sT : Stp (owns σ sl) F H F2 H2 := s'.trans sF fun p hp => by simp at hp
    have hold2 : Hold F2 H2 D (cl (lcC step t0 (xs.take i)).2) := hold_step (os := []) ⟨dF', _, hacc, acc, rfl, racc⟩ sF (by simp)
    have back : ∀ {F4 H4 : Hp} {s : List Slot} {t' : τ}, Reg F4 H4 σ3 s → Wks s (St t') → Reg F4 H4 σ (St t') := fun {F4 H4 s t'} r4 w4 => by
      refine ((r4.wk w4).1.agree ⟨?_, fun k s hs hn => ?_⟩).1
      · rw [l3, wipe_length]
      · have hk : k ∉ vs := fun z => hn (hno t' k z s hs)
        rw [k3 k fun z => hk (hjs k z), wipe_get hk]
    have tr := hb i t xs[i] ha (by rw [ht])
    rw [et]
    cases hs : step t xs[i] with
    | mk t' o =>
      rw [hs] at tr
      cases o with
      | none =>
        obtain ⟨u1, z1, z2⟩ := tr
        refine z1.u.2 σ3 F2 H2 r3 _ fun F4 H4 s4 r4 => ?_
        rw [if_neg Bool.false_ne_true]
        have hd := hold_step hold2 s4 D3
        obtain ⟨d1, o1, d2, vs1, rfl, d3⟩ := hd
        refine ⟨F4, vs1, sT.trans s4 fun p hp => .inl (own3' p hp), back r4 z2, sm.trans (sF.fr.trans s4.fr), d1, d2, ?_⟩
        simpa using d3
      | some b =>
        obtain ⟨u1, u2, z1, z2, z3⟩ := tr
        have e4 : owns σ3 u1 = owns σ3 (sb xs[i] t) := (owns_kd z1.u.1).symm
        refine z1.u.2 σ3 F2 H2 r3 _ fun F4 H4 s4 r4 => ?_
        rw [if_pos rfl]
        refine z2.u.2 σ3 F4 H4 r4 _ fun v F5 H5 s5 r5 rv => ?_
        have s45 : Stp (owns σ3 (sb xs[i] t)) F2 H2 F5 H5 := s4.trans s5 fun p hp => .inl (by rw [e4] at hp; exact hp)
        have hd := hold_step hold2 s45 D3
        obtain ⟨d1, o1, d2, vs1, rfl, d3⟩ := hd
        have hl : vs1.length < sizeLine := by
          have a1 := d3.len
          have a2 := lcC_len step t0 (xs.take i)
          have a3 : (xs.take i).length ≤ i := by rw [List.length_take]; omega
          rw [sizeLine_eq]
          omega
        refine ⟨vs1, d2, hl, F5, vs1 ++ [v], ?_, ?_, sm.trans (sF.fr.trans s45.fr), d1, upd_same, ?_⟩
        · refine (sT.trans s45 fun p hp => .inl (own3' p hp)).trans (stp_write (p := D) (o := .lst (vs1 ++ [v])) (by rw [d2]; simp)) fun p hp => ?_
          rw [List.mem_singleton] at hp
          rw [hp]
          exact .inr (s1.free hD)
        · have rb := back r5 z3
          refine ⟨same_write rb.sub d1, rb.nd, Slots.step (.refl _) rb.ok fun p hp => ⟨(Slots.owned rb.ok p hp).1, ?_⟩⟩
          rw [upd_ne fun z => ?_]
          rw [z, os] at hp
          exact (Slots.owned r.ok D hp).2 (s1.free hD)
        · exact d3.app (Reps.one rv)
  · rintro H' ⟨F', acc, s', r', sm, dF', hacc, racc⟩
    rw [List.take_length] at r' racc
    exact q D F' H' s' r' (s1.free hD) ⟨dF', _, hacc, acc, rfl, racc⟩
end
end Wk

/-! Wk8: comprehensions as expressions, calls, promises, defs. -/
namespace Wk
open PySem L2

section
variable {ι : Type} {X : ι → Cx} {S : Sit} {sl sl1 sl2 : List Slot} {α β τ ρ : Type} [Rep α] [Rep β] [Rep ρ] {e e1 e2 tg iter elt : Expr} {ifs : List Expr} {pos p1 p2 spos : Pos} {scope : Scope}
/-- [elt for tg in iter if ..] with a state -/
theorem x_lcS (f : Fam X S) {xs : List α} {own : List (Str × Nat)} {js : List Nat} (St : τ → List Slot) (t0 : τ) (sb : α → τ → List Slot) (step : τ → α → τ × Option β)
    (hsrc : Src X tg iter sl sl1 xs) (hblk : ∀ i, BlkOk (X i).N (X i).env.scope scope own) (h0 : Wks sl1 (St t0)) (hk : sl1.map Slot.kd = (St t0).map Slot.kd)
    (hg : ∀ x t, Tg (blkF X scope) tg js x (St t) (sb x t)) (hjs : ∀ j ∈ js, j ∈ own.map (·.2)) (hno : ∀ t, ∀ j ∈ own.map (·.2), ∀ s, (St t)[j]? = some s → s = Slot.no) (hkd : ∀ t, (St t).map Slot.kd = (St t0).map Slot.kd) (hlen : xs.length ≤ 16777216)
    (hb : ∀ i t x, xs[i]? = some x → t = (lcC step t0 (xs.take i)).1 → LTurn (blkF X scope) ifs elt St (sb x t) (step t x)) :
    EN X (.ListComp elt [⟨tg, iter, ifs, 0⟩] scope pos) sl (St (lcC step t0 xs).1) (cl (lcC step t0 xs).2) := by
  obtain ⟨wi, w1, w2, w3, w4⟩ := hsrc
  let g : TG := fun v σ H Q => ∃ g, (∀ i, PG (blkF X scope i) tg g) ∧ g v σ H Q
  have hgg : ∀ i, PG (blkF X scope i) tg g := fun i => ⟨fun pins s σ H v u Q I r h => by
    obtain ⟨g, a, b⟩ := h
    exact (a i).run pins s σ H v u Q I r b⟩
  refine ⟨tLc wi g (uTI (blkF X scope) ifs) (uE (blkF X scope) elt) (own.map (·.2)), fun i => ?_, ?_⟩
  · exact pe_lc (f.calm i) (by rw [f.N i]; exact f.nd) (w1 i) (hblk i) (fun s H C cl fp => hgg (i, s, H, C, cl, fp)) (fun s H C cl fp => uTI_ok (X := blkF X scope) (i, s, H, C, cl, fp)) (fun s H C cl fp => uE_ok (X := blkF X scope) (i, s, H, C, cl, fp)) (w2 i)
  · refine evn_lc St t0 sb step ⟨w3, w4⟩ h0 hk (fun x t σ F H v r rv Q q => ?_) hjs hno hkd hlen hb
    obtain ⟨g', a, b⟩ := hg x t
    exact ⟨g', a, b σ F H v r rv Q q⟩
/-- y = [..] on one line, y a local: the list is owned -/
theorem g1_lcS (f : Fam X S) {xs : List α} {own : List (Str × Nat)} {js : List Nat} (j : Nat) {y : Str} (St : τ → List Slot) (t0 : τ) (sb : α → τ → List Slot) (step : τ → α → τ × Option β)
    (hN : S.N[j]? = some y) (hyl : ∀ i, (X i).env.scope.names.lookup y = some .local) (hsw : ∀ i, swapsWith (.ListComp elt [⟨tg, iter, ifs, 0⟩] scope pos) (some (.Name y p1)) spos.line (X i).env = pure true)
    (hsrc : Src X tg iter sl sl1 xs) (hblk : ∀ i, BlkOk (X i).N (X i).env.scope scope own) (h0 : Wks sl1 (St t0)) (hk : sl1.map Slot.kd = (St t0).map Slot.kd)
    (hg : ∀ x t, Tg (blkF X scope) tg js x (St t) (sb x t)) (hjs : ∀ j ∈ js, j ∈ own.map (·.2)) (hno : ∀ t, ∀ j ∈ own.map (·.2), ∀ s, (St t)[j]? = some s → s = Slot.no) (hkd : ∀ t, (St t).map Slot.kd = (St t0).map Slot.kd) (hlen : xs.length ≤ 16777216)
    (hb : ∀ i t x, xs[i]? = some x → t = (lcC step t0 (xs.take i)).1 → LTurn (blkF X scope) ifs elt St (sb x t) (step t x)) :
    G1 X (.Assign [.Name y p1] (.ListComp elt [⟨tg, iter, ifs, 0⟩] scope pos) spos) sl (.next ((St (lcC step t0 xs).1).set j (.own (cl (lcC step t0 xs).2))) : Out ρ) := by
  obtain ⟨wi, w1, w2, w3, w4⟩ := hsrc
  let g : TG := fun v σ H Q => ∃ g, (∀ i, PG (blkF X scope i) tg g) ∧ g v σ H Q
  have hgg : ∀ i, PG (blkF X scope i) tg g := fun i => ⟨fun pins s σ H v u Q I r h => by
    obtain ⟨g, a, b⟩ := h
    exact (a i).run pins s σ H v u Q I r b⟩
  have ev : EvN (tLc wi g (uTI (blkF X scope) ifs) (uE (blkF X scope) elt) (own.map (·.2))) sl (St (lcC step t0 xs).1) (cl (lcC step t0 xs).2) := by
    refine evn_lc St t0 sb step ⟨w3, w4⟩ h0 hk (fun x t σ F H v r rv Q q => ?_) hjs hno hkd hlen hb
    obtain ⟨g', a, b⟩ := hg x t
    exact ⟨g', a, b σ F H v r rv Q q⟩
  refine ⟨_, fun i => ps_setLc (i := j) (f.calm i) (by rw [f.N i]; exact f.nd) (by rw [f.N i]; exact hN) (hyl i) (hsw i) (w1 i) (hblk i) (fun s H C cl fp => hgg (i, s, H, C, cl, fp)) (fun s H C cl fp => uTI_ok (X := blkF X scope) (i, s, H, C, cl, fp)) (fun s H C cl fp => uE_ok (X := blkF X scope) (i, s, H, C, cl, fp)) (w2 i), fun σ F H D r m => ev.2 σ F H r _ fun p F1 H1 s1 r1 hp hc => ?_⟩
  obtain ⟨g1, g2⟩ := reg_own j s1 r1 ev.1 r hp hc
  exact m _ F1 H1 s1 g1 g2

/-! ### arguments -/
theorem a_nil : A X [] sl sl [] := ⟨_, fun _ => pa_nil, rfl, fun σ F H r Q q => q [] F H (.refl _ _ _) r trivial⟩
theorem args_step {σ : L2.St} {F H F' H' H0 : Hp} {os : List Addr} (s : Stp os F H F' H') (ho : ∀ p, H0 p = none → p ∉ os) : ∀ {vs : List V} {as : List Arg}, Args σ H0 F H vs as → Args σ H0 F' H' vs as
  | [], [], _ => trivial
  | v :: vs, a :: as, h => ⟨by
      cases a with
      | v q => exact q.inst.mono s.fr h.1
      | s j => exact h.1
      | n c =>
        obtain ⟨p, e, h0, hp⟩ := h.1
        exact ⟨p, e, h0, hold_step hp s (ho p h0)⟩, args_step s ho h.2⟩
theorem args_wk {σ : L2.St} {F H H0 H1 : Hp} (h : ∀ p, H1 p = none → H0 p = none) : ∀ {vs : List V} {as : List Arg}, Args σ H1 F H vs as → Args σ H0 F H vs as
  | [], [], _ => trivial
  | v :: vs, a :: as, q => ⟨by
      cases a with
      | v _ => exact q.1
      | s _ => exact q.1
      | n c =>
        obtain ⟨p, e, h0, hp⟩ := q.1
        exact ⟨p, e, h p h0, hp⟩, args_wk h q.2⟩
theorem a_v {a : α} {es : List Expr} {as : List Arg} (h : E X e sl sl1 a) (hr : A X es sl1 sl2 as) (hs : ∀ i, starEach (e :: es) (X i).env = (false, eval e (X i).env) :: starEach es (X i).env := by intro _; rfl) : A X (e :: es) sl sl2 (va a :: as) := by
  obtain ⟨te, a1, a2⟩ := h
  obtain ⟨ta, b1, b2⟩ := hr
  refine ⟨tCons te ta, fun i => pa_cons (a1 i) (b1 i) (hs i), a2.1.trans b2.1, fun σ F H r Q q => a2.2 σ F H r _ fun v F1 H1 s1 r1 hv => b2.2 σ F1 H1 r1 _ fun vs F2 H2 s2 r2 hvs => ?_⟩
  exact q (v :: vs) F2 H2 (s1.trans s2 fun p hp => .inl (by rw [owns_kd a2.1]; exact hp)) r2 ⟨Rep.mono s2.fr hv, args_wk (fun p z => s1.free z) hvs⟩
/-- a slot's object is handed on -/
theorem a_s (f : Fam X S) (j : Nat) {x : Str} {c : Ct} {es : List Expr} {as : List Arg} (hN : S.N[j]? = some x) (hv : ∀ i, Vis (X i).env.scope x) (hj : sl[j]? = some (.own c) ∨ ∃ q, sl[j]? = some (.par q c)) (hr : A X es sl sl2 as)
    (hd : (x == ("__debug__" : Str)) = false := by decide) (hcd : (x == ("__classdict__" : Str)) = false := by decide) (hs : ∀ i, starEach (.Name x p1 :: es) (X i).env = (false, eval (.Name x p1) (X i).env) :: starEach es (X i).env := by intro _; rfl) :
    A X (.Name x p1 :: es) sl sl2 (.s j :: as) := by
  obtain ⟨ta, b1, b2⟩ := hr
  refine ⟨tCons (tVar j) ta, fun i => pa_cons (pe_var (by rw [f.N i]; exact hN) (hv i) hd hcd) (b1 i) (hs i), b2.1, fun σ F H r Q q => ?_⟩
  have hh : ∃ s, sl[j]? = some s ∧ (s = .own c ∨ ∃ q, s = .par q c) := by
    rcases hj with h | ⟨q, h⟩
    · exact ⟨_, h, .inl rfl⟩
    · exact ⟨_, h, .inr ⟨q, rfl⟩⟩
  obtain ⟨s, h1, h2⟩ := hh
  obtain ⟨p, e1, _, _, _⟩ := r.lend h1 h2
  exact ⟨.ref p, e1, b2.2 σ F H r _ fun vs F2 H2 s2 r2 hvs => q (.ref p :: vs) F2 H2 s2 r2 ⟨e1, hvs⟩⟩
/-- a new object is handed on -/
theorem a_n {c : Ct} {es : List Expr} {as : List Arg} (h : EN X e sl sl1 c) (hr : A X es sl1 sl2 as) (hs : ∀ i, starEach (e :: es) (X i).env = (false, eval e (X i).env) :: starEach es (X i).env := by intro _; rfl) : A X (e :: es) sl sl2 (.n c :: as) := by
  obtain ⟨te, a1, a2⟩ := h
  obtain ⟨ta, b1, b2⟩ := hr
  refine ⟨tCons te ta, fun i => pa_cons (a1 i) (b1 i) (hs i), a2.1.trans b2.1, fun σ F H r Q q => a2.2 σ F H r _ fun p F1 H1 s1 r1 hp hc => b2.2 σ F1 H1 r1 _ fun vs F2 H2 s2 r2 hvs => ?_⟩
  refine q (.ref p :: vs) F2 H2 (s1.trans s2 fun p hp => .inl (by rw [owns_kd a2.1]; exact hp)) r2 ⟨⟨p, rfl, hp, hold_step hc s2 ?_⟩, args_wk (fun p z => s1.free z) hvs⟩
  rw [← owns_kd a2.1]
  exact fresh_owns r hp
end

/-! ### promises -/
/-- what a call hands back: a value; a new object -/
inductive Rs where
  | v (q : Sv)
  | n (c : Ct)
def rv {α : Type} [r : Rep α] (a : α) : Rs := .v ⟨α, r, a⟩
def rn {α : Type} [r : Rep α] (xs : List α) : Rs := .n (cl xs)
def Rs.ok (H F' H' : Hp) (v : V) : Rs → Prop
  | .v q => q.inst.rep F' v q.a
  | .n c => ∃ p, v = .ref p ∧ H p = none ∧ Hold F' H' p c
/-- a promise over the parameters' slots (ins), for all a: what is handed back, what the lent objects then hold -/
structure Pr where
  (A : Type)
  (ins : A → List Slot)
  (pre : A → Prop)
  (res : A → Rs)
  (outs : A → List (Addr × Ct))
def Pr.sp (q : Pr) : Sp := fun vs H Q _ => ∃ a F, Reg F H (vs.map some) (q.ins a) ∧ q.pre a ∧
  ∀ v F' H', Stp (owns (vs.map some) (q.ins a)) F H F' H' → Same F' H' → (∀ pc ∈ q.outs a, Hold F' H' pc.1 pc.2) → (q.res a).ok H F' H' v → Q v H'

/-- an argument fits a parameter's slot: p the lent object's address, c what it holds -/
def Arg.fit (p : Addr) (c : Ct) (j : Option Nat) : Arg → Slot → Prop
  | .v q, .val q' => q = q'
  | .s i, .par p' c' => j = some i ∧ p' = p ∧ c' = c
  | .n c1, .par p' c' => j = none ∧ p' = p ∧ c' = c1 ∧ c1 = c
  | _, _ => False
def Fits (p : Addr) (c : Ct) (j : Option Nat) : List Arg → List Slot → Prop
  | [], [] => True
  | a :: as, s :: sl => a.fit p c j s ∧ Fits p c j as sl
  | _, _ => False
theorem fits_len {p : Addr} {c : Ct} {j : Option Nat} : ∀ {as : List Arg} {sl : List Slot}, Fits p c j as sl → as.length = sl.length
  | [], [], _ => rfl
  | _ :: _, _ :: _, h => by simp [fits_len h.2]
theorem args_len {σ : L2.St} {H0 F H : Hp} : ∀ {vs : List V} {as : List Arg}, Args σ H0 F H vs as → vs.length = as.length
  | [], [], _ => rfl
  | _ :: _, _ :: _, h => by simp [args_len h.2]
/-- fitted arguments are the parameters' slots -/
theorem fits_slots {σ : L2.St} {H0 F H : Hp} {p : Addr} {c : Ct} {j : Option Nat} (hp : ∀ i, j = some i → σ[i]? = some (some (.ref p)) ∧ Hold F H p c) (hn : j = none → ∀ q, H0 q = none → Hold F H q c → q = p) :
    ∀ {vs : List V} {as : List Arg} {sl : List Slot}, Args σ H0 F H vs as → Fits p c j as sl → Slots F H (vs.map some) sl ∧ owns (vs.map some) sl = parO sl ∧ ∀ q ∈ parO sl, q = p
  | [], [], [], _, _ => ⟨trivial, rfl, fun q h => by simp [parO] at h⟩
  | v :: vs, a :: as, s :: sl, h, g => by
    obtain ⟨i1, i2, i3⟩ := fits_slots hp hn h.2 g.2
    cases a with
    | v q =>
      cases s with
      | val q' =>
        have e : q = q' := g.1
        subst e
        exact ⟨⟨⟨v, rfl, h.1⟩, i1⟩, i2, i3⟩
      | no => exact g.1.elim
      | own _ => exact g.1.elim
      | par _ _ => exact g.1.elim
    | s i =>
      cases s with
      | val q' => exact g.1.elim
      | no => exact g.1.elim
      | own _ => exact g.1.elim
      | par p' c' =>
        obtain ⟨e1, e2, e3⟩ := g.1
        subst e2 e3
        obtain ⟨h1, h2⟩ := hp i e1
        have hv : v = .ref p' := by
          have := (show σ[i]? = some (some v) from h.1).symm.trans h1
          simpa using this
        refine ⟨⟨⟨congrArg some hv, h2⟩, i1⟩, ?_, fun q hq => ?_⟩
        · exact congrArg (p' :: ·) i2
        · rcases List.mem_cons.mp hq with z | z
          · exact z
          · exact i3 q z
    | n c1 =>
      cases s with
      | val q' => exact g.1.elim
      | no => exact g.1.elim
      | own _ => exact g.1.elim
      | par p' c' =>
        obtain ⟨e1, e2, e3, e4⟩ := g.1
        subst e2 e3 e4
        obtain ⟨q, hv, h0, hq⟩ := h.1
        have eq := hn e1 q h0 hq
        subst eq
        refine ⟨⟨⟨congrArg some hv, hq⟩, i1⟩, ?_, fun q hq => ?_⟩
        · exact congrArg (q :: ·) i2
        · rcases List.mem_cons.mp hq with z | z
          · exact z
          · exact i3 q z

/-! ### a def's promise where no repr is under way -/
structure FnG (P : Program) (w : World) (K : PySem.W.Frag) (mg : Str → Option Value) (base : Heap) (CX : CXT) (k : Nat) (f : Addr) (fd : FuncData) (ps : List Str) (sp : Sp) : Prop where
  arity : ∀ vs H Q E, sp vs H Q E → vs.length = ps.length
  goes : ∀ (A : Around) (outer : List Env) (z : Shared) (H : Hp) (args : PySem.Args) (us : List Value) (vs : List V) (Q : VK) (E : XK), Room k A → A.guards = some [] → Env0 P w K mg base A outer z H → BindsTo z fd args (ps.zip us) → Vals vs us → sp vs H Q E → codeAny (model P w) A (.call (.ref f) args) (CR CX outer P w H z Q E) z
section
variable {P : Program} {w : World} {K : PySem.W.Frag} {mg : Str → Option Value} {base : Heap} {CX : CXT} {sp : Sp} {N ps : List Str} {f : Addr} {fd : FuncData}
theorem FnG.mono {j k : Nat} (F : FnG P w K mg base CX j f fd ps sp) (h : j ≤ k) : FnG P w K mg base CX k f fd ps sp :=
  ⟨F.arity, fun A outer z H args us vs Q E room => F.goes A outer z H args us vs Q E (room.mono h)⟩
/-- by its body -/
theorem Fun.okG {x qual : Str} {st : Stmt} {k : Nat} (F : Fun K x qual st f fd) (Sc : FnScope N ps (defScope st)) (arity : ∀ vs H Q E, sp vs H Q E → vs.length = ps.length)
    (body : ∀ (cdv : Value) (A : Around) (outer : List Env) (z : Shared) (H : Hp) (vs : List V) (Q : VK) (E : XK), Room k (A.deeper (PyProof.Rows.envOfC qual (defScope st) z.heap.objs.size f cdv)) → (A.deeper (PyProof.Rows.envOfC qual (defScope st) z.heap.objs.size f cdv)).guards = some [] → sp vs H Q E →
      ∃ t, PSs (cxOf CX P w K mg base N qual (defScope st) f cdv A outer z H E).nox (defBody st) t ∧ t { nx := fun _ H' => Q .non H', rt := Q } (L2.start N vs) H) : FnG P w K mg base CX (k + 1) f fd ps sp := by
  obtain ⟨oc, od, kV, doc, pm, an, cdv, ct, osl, rfl, look, hcode⟩ := F.ex
  refine ⟨arity, fun A outer z H args us vs Q E room gd e0 bind rel hsp => ?_⟩
  have ar := arity _ _ _ _ hsp
  have inK : K.In z.heap := e0.mod.kin.keeps fun b o e => (e0.bs b o e).1
  have nolim : z.heap.NoLimit := e0.mod.nolimit.keeps fun b o e => (e0.bs b o e).1
  have kinds : ∀ y ∈ ps.zip us, (defScope st).names.lookup y.1 = some .local ∨ ((defScope st).names.lookup y.1 = some .cell ∧ ((PySem.cellsFrom (z.heap.objs.size + 1) (defScope st).names []).lookup y.1).isSome = true) := fun y hy => by
    rcases Sc.par y.1 (List.of_mem_zip hy).1 with q | q
    · exact .inl q
    · exact .inr ⟨q, PySem.W.cellsFrom_some _ _ _ (.inl q)⟩
  refine codeAny_call_function room.depth (inK _ _ look) rfl Sc.co Sc.gen rfl (PySem.W.codeRec_of inK hcode) (bind _ _ _ _ (wpAny_newFunctionEnv_cells Sc.kind kinds fun env env_eq z1 y => ?_))
  subst env_eq
  refine ⟨nolim.keeps y.toInCall.keep, codeAny_func ?_⟩
  obtain ⟨t, pt, go⟩ := body cdv A outer z H vs Q E (room.deeper _) (by first | exact gd | (show A.guards = _; exact gd)) hsp
  have inv0 : Inv (cxOf CX P w K mg base N qual (defScope st) f cdv A outer z H E) [] (L2.start N vs) H z1 := inv_start Sc room.hd e0 ar rel y
  have close : ∀ {σ2 : L2.St} {H2 : Hp} {v : V} {u : Value} {z2 : Shared}, Inv (cxOf CX P w K mg base N qual (defScope st) f cdv A outer z H E) [] σ2 H2 z2 → RelV v u → Q v H2 → CE outer P w H z Q u z2 := fun J r q => ⟨_, _, J.os, J.bare, J.base, J.hok, r, q⟩
  refine wpAny_mono (pt.nox.run [] z1 (L2.start N vs) H _ inv0 go) (fun fl z2 got => ?_) fun _ _ y => y
  match fl, got with
  | .ret u, ⟨v, σ2, H2, J, r, q⟩ => exact close J r q
  | .next, ⟨σ2, H2, J, q⟩ => exact close (v := V.non) (u := Value.none) J rfl q
  | .brk, ⟨_, _, _, q⟩ => exact q.elim
  | .cont, ⟨_, _, _, q⟩ => exact q.elim
end
section
variable {X : Cx} {CX : CXT} {k : Nat} {f : Addr} {fd : FuncData} {ps : List Str} {sp : Sp} {B : XK} {x : Str} {p pos : Pos} {e : Expr} {es : List Expr} {t : TA}
/-- a call, by what it binds -/
theorem goG {pins : List (Addr × Obj)} {σ : L2.St} {H : Hp} {z : Shared} {Q : VK} {args : PySem.Args} {us : List Value} {vs : List V} (F : FnG X.prog X.w X.K X.mg X.base CX k f fd ps sp) (room : Room k X.A) (gd : X.A.guards = some []) (hx : Passes CX X B)
    (I : Inv X pins σ H z) (bind : BindsTo z fd args (ps.zip us)) (r : Vals vs us) (h : sp vs H Q B) : codeAny (model X.prog X.w) X.A (.call (.ref f) args) (fun r z' => match r with | .ok (.ret u) => EP X pins σ Q u z' | .ok _ => False | .error e => X.xe e z') z := by
  refine codeAny_mono (F.goes X.A X.stack z H args us vs Q B room gd I.env0 bind r h) fun r z' got => ?_
  match r, got with
  | .error e, got => exact hx pins σ H z e z' I got
  | .ok (.ret u), got => exact I.after got
  | .ok .next, got => exact got.elim
  | .ok .brk, got => exact got.elim
  | .ok .cont, got => exact got.elim
theorem pe_callG (F : FnG X.prog X.w X.K X.mg X.base CX k f fd ps sp) (room : Room k X.A) (gd : X.A.guards = some []) (hg : Gl X x) (hm : X.mg x = some (.ref f)) (hk : PySem.W.keepIn X.K (.ref f) = true) (hb : Binds X.K fd ps []) (hx : Passes CX X B)
    (ha : PA X (e :: es) t) (hdb : (x == ("__debug__" : Str)) = false) (he : starEach (e :: es) X.env = (false, eval e X.env) :: starEach es X.env) (hpl : (backTo pos (starEach es X.env)).any (·.1) = false) : PE X (.Call (.Name x p) (e :: es) [] pos) (tCall sp [] B t) := by
  refine ⟨fun pins z σ H Q I h => wpAny_Call_Name_kw (ld_glob I hg hm ?_ hdb)⟩
  refine PySem.W.callWith_K (h₀ := X.base) I.ok.mod.kin hk (thn (ha.run pos pins z σ H _ I h) fun us z1 ⟨vs, H1, I1, r, q⟩ => ⟨I1.kIn, ?_⟩) he hpl
  have q : sp vs H1 Q B := by
    have y : sp (vs ++ []) H1 Q B := q
    rw [List.append_nil] at y
    exact y
  have al : us.length = ps.length := by rw [← r.length]; exact F.arity _ _ _ _ q
  have bt := hb z1 us I1.kIn (by rw [List.append_nil]; exact al)
  rw [List.append_nil] at bt
  refine wpAny_call (codeAny_mono (goG F room gd hx I1 bt r q) fun r z' got => ?_)
  match r, got with
  | .error e, got => exact got
  | .ok (.ret u), got => exact got
  | .ok .next, got => exact got.elim
  | .ok .brk, got => exact got.elim
  | .ok .cont, got => exact got.elim
end
/-- a def of the module that keeps a promise -/
def Fnc (P : Program) (w : World) (K : PySem.W.Frag) (mg : Str → Option Value) (base : Heap) (k : Nat) (x : Str) (ps : List Str) (q : Pr) : Prop :=
  ∃ f fd, mg x = some (.ref f) ∧ PySem.W.keepIn K (.ref f) = true ∧ Binds K fd ps [] ∧ FnG P w K mg base CX0 k f fd ps q.sp ∧ ∃ (st : Stmt) (nm qual : Str), Fun K nm qual st f fd
abbrev Sit.Fn (S : Sit) (k : Nat) (x : Str) (ps : List Str) (q : Pr) : Prop := Fnc S.P S.w S.K S.mg S.base k x ps q

section
variable {ι : Type} {X : ι → Cx} {S : Sit} {sl sl1 sl2 : List Slot} {α β τ ρ : Type} [Rep α] [Rep β] [Rep ρ] {e e1 e2 tg iter elt : Expr} {es : List Expr} {ifs : List Expr} {pos p1 p2 spos : Pos} {scope : Scope}
theorem fnok_at {i : ι} {q : Pr} {k : Nat} {f : Addr} {fd : FuncData} {ps : List Str} (fm : Fam X S) (F : FnG S.P S.w S.K S.mg S.base CX0 k f fd ps q.sp) (hk : k ≤ S.k) : FnG (X i).prog (X i).w (X i).K (X i).mg (X i).base CX0 S.k f fd ps q.sp := by
  rw [fm.P i, fm.w i, fm.K i, fm.mg i, fm.base i]
  exact F.mono hk
/-- the term of a call -/
theorem pe_fn {q : Pr} {k : Nat} {x : Str} {ps : List Str} {ta : TA} (fm : Fam X S) (F : S.Fn k x ps q) (hk : k ≤ S.k) (hg : ∀ i, Gl (X i) x) (ha : ∀ i, PA (X i) (e :: es) ta) (hdb : (x == ("__debug__" : Str)) = false)
    (he : ∀ i, starEach (e :: es) (X i).env = (false, eval e (X i).env) :: starEach es (X i).env) (hpl : ∀ i, (backTo pos (starEach es (X i).env)).any (·.1) = false) (i : ι) : PE (X i) (.Call (.Name x p1) (e :: es) [] pos) (tCall q.sp [] E0 ta) := by
  obtain ⟨f, fd, h1, h2, h3, h4, _⟩ := F
  exact pe_callG (fnok_at fm h4 hk) (fm.room i) (fm.gd i) (hg i) (by rw [fm.mg i]; exact h1) (by rw [fm.K i]; exact h2) (by rw [fm.K i]; exact h3) pass0 (ha i) hdb (he i) (hpl i)
/-- what a call of a promise reads: c' the lent object's content behind it -/
theorem call_read {q : Pr} {σ : L2.St} {F H F1 H1 : Hp} {vs : List V} {as : List Arg} {a : q.A} {p : Addr} {c : Ct} {j : Option Nat} (g : Reg F H σ sl) (s1 : Stp (owns σ sl) F H F1 H1) (g1 : Reg F1 H1 σ sl1) (hvs : Args σ H F1 H1 vs as) (ek : sl.map Slot.kd = sl1.map Slot.kd)
    (hf : Fits p c j as (q.ins a)) (hpar : (parO (q.ins a)).Nodup) (hpre : q.pre a) (hp : ∀ i, j = some i → σ[i]? = some (some (.ref p)) ∧ Hold F1 H1 p c) (hn : j = none → ∀ r, H r = none → Hold F1 H1 r c → r = p) {Q : VK} {E : XK}
    (h : ∀ v F2 H2, Stp [p] F1 H1 F2 H2 → (parO (q.ins a) = [] → Stp [] F1 H1 F2 H2) → Same F2 H2 → (∀ pc ∈ q.outs a, Hold F2 H2 pc.1 pc.2) → (q.res a).ok H1 F2 H2 v → Q v H2) : q.sp vs H1 Q E := by
  obtain ⟨i1, i2, i3⟩ := fits_slots hp hn hvs hf
  refine ⟨a, F1, ⟨g1.sub, by rw [i2]; exact hpar, i1⟩, hpre, fun v F2 H2 s2 sm ho hr => h v F2 H2 ?_ ?_ sm ho hr⟩
  · exact s2.wk fun r hr => .inl (by rw [i2] at hr; rw [i3 r hr]; exact List.mem_singleton.mpr rfl)
  · intro e
    rw [i2, e] at s2
    exact s2
/-- values alone fit -/
theorem fits_vals {q : Pr} {a : q.A} {σ : L2.St} {H F1 H1 : Hp} {vs : List V} {as : List Arg} (hvs : Args σ H F1 H1 vs as) (hf : Fits 0 (cl ([] : List Int)) (some 0) as (q.ins a)) (hpar : parO (q.ins a) = []) : Slots F1 H1 (vs.map some) (q.ins a) ∧ owns (vs.map some) (q.ins a) = parO (q.ins a) := by
  have aux : ∀ {vs : List V} {as : List Arg} {sl : List Slot}, parO sl = [] → Args σ H F1 H1 vs as → Fits 0 (cl ([] : List Int)) (some 0) as sl → Slots F1 H1 (vs.map some) sl ∧ owns (vs.map some) sl = parO sl := by
    intro vs
    induction vs with
    | nil =>
      intro as sl _ h g
      cases as with
      | nil => cases sl with
        | nil => exact ⟨trivial, rfl⟩
        | cons _ _ => exact g.elim
      | cons _ _ => exact h.elim
    | cons v vs ih =>
      intro as sl hn h g
      cases as with
      | nil => exact h.elim
      | cons u as =>
        cases sl with
        | nil => exact g.elim
        | cons s sl =>
          cases u with
          | v q1 =>
            cases s with
            | val q2 =>
              have e : q1 = q2 := g.1
              subst e
              obtain ⟨i1, i2⟩ := ih (sl := sl) hn h.2 g.2
              exact ⟨⟨⟨v, rfl, h.1⟩, i1⟩, i2⟩
            | no => exact g.1.elim
            | own _ => exact g.1.elim
            | par _ _ => exact g.1.elim
          | s i =>
            cases s with
            | par _ _ => cases hn
            | val _ => exact g.1.elim
            | no => exact g.1.elim
            | own _ => exact g.1.elim
          | n c =>
            cases s with
            | par _ _ => cases hn
            | val _ => exact g.1.elim
            | no => exact g.1.elim
            | own _ => exact g.1.elim
  exact aux hpar hvs hf
/-- f(..), values alone -/
theorem x_call {q : Pr} {k : Nat} {x : Str} {ps : List Str} {as : List Arg} {b : β} (fm : Fam X S) (F : S.Fn k x ps q) (a : q.A) (ha : A X (e :: es) sl sl1 as) (hpre : q.pre a) (hf : Fits 0 (cl ([] : List Int)) (some 0) as (q.ins a)) (hr : q.res a = rv b) (hk : k ≤ S.k) (hg : ∀ i, Gl (X i) x) (hpar : parO (q.ins a) = [] := by rfl)
    (hdb : (x == ("__debug__" : Str)) = false := by decide) (he : ∀ i, starEach (e :: es) (X i).env = (false, eval e (X i).env) :: starEach es (X i).env := by intro _; rfl) (hpl : ∀ i, (backTo pos (starEach es (X i).env)).any (·.1) = false := by intro _; rfl) :
    E X (.Call (.Name x p1) (e :: es) [] pos) sl sl1 b := by
  obtain ⟨ta, h1, h2⟩ := ha
  refine ⟨_, fun i => pe_fn fm F hk hg h1 hdb he hpl i, h2.1, fun σ F H r Q qq => h2.2 σ F H r _ fun vs F1 H1 s1 r1 hvs => ?_⟩
  rw [List.append_nil]
  have z := fits_vals hvs hf hpar
  refine ⟨a, F1, ⟨r1.sub, by rw [z.2, hpar]; exact List.nodup_nil, z.1⟩, hpre, fun v F2 H2 s2 sm ho hrv => ?_⟩
  rw [z.2, hpar] at s2
  rw [hr] at hrv
  exact qq v F2 H2 (s1.trans s2 fun p hp => by simp at hp) (r1.grow s2 sm) hrv
theorem x_callN {q : Pr} {k : Nat} {x : Str} {ps : List Str} {as : List Arg} {c : Ct} (fm : Fam X S) (F : S.Fn k x ps q) (a : q.A) (ha : A X (e :: es) sl sl1 as) (hpre : q.pre a) (hf : Fits 0 (cl ([] : List Int)) (some 0) as (q.ins a)) (hr : q.res a = .n c) (hk : k ≤ S.k) (hg : ∀ i, Gl (X i) x) (hpar : parO (q.ins a) = [] := by rfl)
    (hdb : (x == ("__debug__" : Str)) = false := by decide) (he : ∀ i, starEach (e :: es) (X i).env = (false, eval e (X i).env) :: starEach es (X i).env := by intro _; rfl) (hpl : ∀ i, (backTo pos (starEach es (X i).env)).any (·.1) = false := by intro _; rfl) :
    EN X (.Call (.Name x p1) (e :: es) [] pos) sl sl1 c := by
  obtain ⟨ta, h1, h2⟩ := ha
  refine ⟨_, fun i => pe_fn fm F hk hg h1 hdb he hpl i, h2.1, fun σ F H r Q qq => h2.2 σ F H r _ fun vs F1 H1 s1 r1 hvs => ?_⟩
  rw [List.append_nil]
  have z := fits_vals hvs hf hpar
  refine ⟨a, F1, ⟨r1.sub, by rw [z.2, hpar]; exact List.nodup_nil, z.1⟩, hpre, fun v F2 H2 s2 sm ho hrv => ?_⟩
  rw [z.2, hpar] at s2
  rw [hr] at hrv
  obtain ⟨p, rfl, hp0, hp⟩ := hrv
  exact qq p F2 H2 (s1.trans s2 fun p hp => by simp at hp) (r1.grow s2 sm) (s1.free hp0) hp
/-- f(.., x, ..), x's object lent: its slot tells what it holds behind -/
theorem call1_read {q : Pr} {σ : L2.St} {F H F1 H1 : Hp} {vs : List V} {as : List Arg} (a : Addr → q.A) {j : Nat} {s : Slot} {c c' : Ct} (g : Reg F H σ sl) (s1 : Stp (owns σ sl) F H F1 H1) (g1 : Reg F1 H1 σ sl1) (hvs : Args σ H F1 H1 vs as) (ek : sl.map Slot.kd = sl1.map Slot.kd)
    (hj : sl1[j]? = some s) (hs : s = .own c ∨ ∃ r, s = .par r c) (hf : ∀ p, Fits p c (some j) as ((q.ins (a p)))) (hpar : ∀ p, parO (q.ins (a p)) = [p]) (hpre : ∀ p, q.pre (a p)) (ho : ∀ p, q.outs (a p) = [(p, c')]) {Q : VK} {E : XK}
    (h : ∀ p v F2 H2, Stp (owns σ sl) F H F2 H2 → Reg F2 H2 σ (sl1.set j (s.to c')) → (q.res (a p)).ok H1 F2 H2 v → Q v H2) : q.sp vs H1 Q E := by
  obtain ⟨p, e1, e2, e3, e4⟩ := g1.lend hj hs
  refine call_read (a := a p) (p := p) (c := c) (j := some j) g s1 g1 hvs ek (hf p) (by rw [hpar p]; simp) (hpre p) (fun i hi => by cases hi; exact ⟨e1, e2⟩) (fun z => by cases z) fun v F2 H2 s2 _ sm hoo hr => ?_
  have hc : Hold F2 H2 p c' := hoo (p, c') (by rw [ho p]; exact List.mem_singleton.mpr rfl)
  obtain ⟨r2, s3⟩ := e4 F2 H2 c' s2 sm hc
  exact h p v F2 H2 (s1.trans s3 fun r hr => .inl (by rw [owns_kd ek]; exact hr)) r2 hr
theorem x_call1 {q : Pr} {k : Nat} {x : Str} {ps : List Str} {as : List Arg} {b : β} {j : Nat} {s : Slot} {c c' : Ct} (fm : Fam X S) (F : S.Fn k x ps q) (a : Addr → q.A) (ha : A X (e :: es) sl sl1 as) (hpre : ∀ p, q.pre (a p)) (hj : sl1[j]? = some s) (hs : s = .own c ∨ ∃ r, s = .par r c)
    (hf : ∀ p, Fits p c (some j) as (q.ins (a p))) (hr : ∀ p, q.res (a p) = rv b) (ho : ∀ p, q.outs (a p) = [(p, c')]) (hk : k ≤ S.k) (hg : ∀ i, Gl (X i) x) (hpar : ∀ p, parO (q.ins (a p)) = [p] := by intro _; rfl)
    (hdb : (x == ("__debug__" : Str)) = false := by decide) (he : ∀ i, starEach (e :: es) (X i).env = (false, eval e (X i).env) :: starEach es (X i).env := by intro _; rfl) (hpl : ∀ i, (backTo pos (starEach es (X i).env)).any (·.1) = false := by intro _; rfl) :
    E X (.Call (.Name x p1) (e :: es) [] pos) sl (sl1.set j (s.to c')) b := by
  obtain ⟨ta, h1, h2⟩ := ha
  refine ⟨_, fun i => pe_fn fm F hk hg h1 hdb he hpl i, h2.1.trans (kd_set c' hj), fun σ F H r Q qq => h2.2 σ F H r _ fun vs F1 H1 s1 r1 hvs => ?_⟩
  rw [List.append_nil]
  refine call1_read a r s1 r1 hvs h2.1 hj hs hf hpar hpre ho fun p v F2 H2 s2 r2 hrv => ?_
  rw [hr p] at hrv
  exact qq v F2 H2 s2 r2 hrv
theorem x_call1N {q : Pr} {k : Nat} {x : Str} {ps : List Str} {as : List Arg} {cr : Ct} {j : Nat} {s : Slot} {c c' : Ct} (fm : Fam X S) (F : S.Fn k x ps q) (a : Addr → q.A) (ha : A X (e :: es) sl sl1 as) (hpre : ∀ p, q.pre (a p)) (hj : sl1[j]? = some s) (hs : s = .own c ∨ ∃ r, s = .par r c)
    (hf : ∀ p, Fits p c (some j) as (q.ins (a p))) (hr : ∀ p, q.res (a p) = .n cr) (ho : ∀ p, q.outs (a p) = [(p, c')]) (hk : k ≤ S.k) (hg : ∀ i, Gl (X i) x) (hpar : ∀ p, parO (q.ins (a p)) = [p] := by intro _; rfl)
    (hdb : (x == ("__debug__" : Str)) = false := by decide) (he : ∀ i, starEach (e :: es) (X i).env = (false, eval e (X i).env) :: starEach es (X i).env := by intro _; rfl) (hpl : ∀ i, (backTo pos (starEach es (X i).env)).any (·.1) = false := by intro _; rfl) :
    EN X (.Call (.Name x p1) (e :: es) [] pos) sl (sl1.set j (s.to c')) cr := by
  obtain ⟨ta, h1, h2⟩ := ha
  refine ⟨_, fun i => pe_fn fm F hk hg h1 hdb he hpl i, h2.1.trans (kd_set c' hj), fun σ F H r Q qq => h2.2 σ F H r _ fun vs F1 H1 s1 r1 hvs => ?_⟩
  rw [List.append_nil]
  refine call1_read a r s1 r1 hvs h2.1 hj hs hf hpar hpre ho fun p v F2 H2 s2 r2 hrv => ?_
  rw [hr p] at hrv
  obtain ⟨p', rfl, hp0, hp⟩ := hrv
  exact qq p' F2 H2 s2 r2 (s1.free hp0) hp
end

/-! ### a def by its body -/
abbrev cX (P : Program) (w : World) (K : PySem.W.Frag) (mg : Str → Option Value) (base : Heap) (N : List Str) (qual : Str) (st : Stmt) (f : Addr) (cdv : Value) (A : Around) (outer : List Env) (s : Shared) (H : Hp) (E : XK) : Unit → Cx :=
  fun _ => (cxOf CX0 P w K mg base N qual (defScope st) f cdv A outer s H E).nox
inductive BodyOk {ι : Type} (X : ι → Cx) (sts : List Stmt) (sl : List Slot) : Rs → List Slot → Prop
  | ret {ρ : Type} [Rep ρ] {b : ρ} {s : List Slot} (h : G X sts sl (.ret b s)) : BodyOk X sts sl (rv b) s
  | new {c : Ct} {s : List Slot} (h : G X sts sl (.new c s : Out Unit)) : BodyOk X sts sl (.n c) s
  | fall {s : List Slot} (h : G X sts sl (.next s : Out Unit)) : BodyOk X sts sl (rv ()) s
theorem slots_nos {F H : Hp} : ∀ {σ : L2.St} {sl : List Slot} (n : Nat), Slots F H σ sl → Slots F H (σ ++ List.replicate n none) (sl ++ List.replicate n .no) ∧ owns (σ ++ List.replicate n none) (sl ++ List.replicate n .no) = owns σ sl ∧ ownO (σ ++ List.replicate n none) (sl ++ List.replicate n .no) = ownO σ sl
  | [], [], 0, _ => ⟨trivial, rfl, rfl⟩
  | [], [], n + 1, _ => by
    obtain ⟨a, b, c⟩ := slots_nos (F := F) (H := H) (σ := []) (sl := []) n trivial
    exact ⟨⟨trivial, a⟩, b, c⟩
  | o :: σ, s :: sl, n, h => by
    obtain ⟨a, b, c⟩ := slots_nos (σ := σ) (sl := sl) n h.2
    refine ⟨⟨h.1, a⟩, ?_, ?_⟩
    · cases s with
      | no => exact b
      | val _ => exact b
      | own _ => exact congrArg (_ ++ ·) b
      | par q _ => exact congrArg (q :: ·) b
    · cases s with
      | no => exact c
      | val _ => exact c
      | own _ => exact congrArg (_ ++ ·) c
      | par q _ => exact c
def Slot.free : Slot → Bool
  | .own _ => false
  | _ => true
theorem ownO_free : ∀ {sl : List Slot} (σ : L2.St), sl.all Slot.free = true → ownO σ sl = []
  | [], [], _ => rfl
  | [], _ :: _, _ => rfl
  | _ :: _, [], _ => rfl
  | s :: sl, o :: σ, h => by
    rw [List.all_cons, Bool.and_eq_true] at h
    have ih := ownO_free σ h.2
    cases s with
    | own c => exact absurd h.1 Bool.false_ne_true
    | no => exact ih
    | val _ => exact ih
    | par _ _ => exact ih
theorem fn_ok {P : Program} {w : World} {K : PySem.W.Frag} {mg : Str → Option Value} {base : Heap} {N ps : List Str} {k : Nat} {x qual : Str} {st : Stmt} {f : Addr} {fd : FuncData} {q : Pr} (F : Fun K x qual st f fd) (Sc : FnScope N ps (defScope st)) (hlen : ∀ a, (q.ins a).length = ps.length) (hno : ∀ a, (q.ins a).all Slot.free = true)
    (body : ∀ cdv A outer s H E, Fam (cX P w K mg base N qual st f cdv A outer s H E) ⟨P, w, K, mg, base, N, k⟩ → ∀ a, q.pre a → ∃ slE, (∀ pc ∈ q.outs a, ∃ j : Nat, slE[j]? = some (.par pc.1 pc.2)) ∧ BodyOk (cX P w K mg base N qual st f cdv A outer s H E) (defBody st) (q.ins a ++ List.replicate (N.length - ps.length) .no) (q.res a) slE) :
    FnG P w K mg base CX0 (k + 1) f fd ps q.sp := by
  refine Fun.okG F Sc (fun vs H Q E h => ?_) (fun cdv A outer s H vs Q E hr gd h => ?_)
  · obtain ⟨a, F0, r, _⟩ := h
    have := r.len
    rw [List.length_map] at this
    rw [this, hlen]
  · obtain ⟨a, F0, r, hpre, hq⟩ := h
    have fam : Fam (cX P w K mg base N qual st f cdv A outer s H E) ⟨P, w, K, mg, base, N, k⟩ := ⟨fun _ => rfl, fun _ => rfl, fun _ => rfl, fun _ => rfl, fun _ => rfl, fun _ => rfl, fun _ => rfl, fun _ => hr, fun _ => rfl, Sc.nd, fun _ => gd⟩
    obtain ⟨slE, ho, hb⟩ := body cdv A outer s H E fam a hpre
    have hl : vs.length = ps.length := by
      have := r.len
      rw [List.length_map] at this
      rw [this, hlen]
    obtain ⟨z1, z2, z3⟩ := slots_nos (N.length - ps.length) r.ok
    have r0 : Reg F0 H (L2.start N vs) (q.ins a ++ List.replicate (N.length - ps.length) .no) := by
      unfold L2.start
      rw [hl]
      exact ⟨r.sub, by rw [z2]; exact r.nd, z1⟩
    have e0 : owns (L2.start N vs) (q.ins a ++ List.replicate (N.length - ps.length) .no) = owns (vs.map some) (q.ins a) := by
      unfold L2.start
      rw [hl]
      exact z2
    have e1 : ownO (L2.start N vs) (q.ins a ++ List.replicate (N.length - ps.length) .no) = [] := by
      unfold L2.start
      rw [hl, z3, ownO_free _ (hno a)]
    have outs : ∀ {σ' : L2.St} {F' H' : Hp}, Reg F' H' σ' slE → ∀ pc ∈ q.outs a, Hold F' H' pc.1 pc.2 := fun {σ' F' H'} r' pc hpc => by
      obtain ⟨j, hj⟩ := ho pc hpc
      obtain ⟨o, _, h2⟩ := r'.ok.at hj
      exact h2.2
    have key : ∀ {rs : Rs}, q.res a = rs → BodyOk (cX P w K mg base N qual st f cdv A outer s H E) (defBody st) (q.ins a ++ List.replicate (N.length - ps.length) .no) rs slE →
        ∃ t, PSs (cX P w K mg base N qual st f cdv A outer s H E ()) (defBody st) t ∧ t { nx := fun _ H' => Q .non H', rt := Q } (L2.start N vs) H := by
      intro rs ers hb
      cases hb with
      | ret h =>
        obtain ⟨t, h1, h2⟩ := h
        refine ⟨t, h1 (), h2 (L2.start N vs) F0 H _ r0 fun v σ' F' H' s' r' o' hv => hq v F' H' (by rw [e0] at s'; exact s') r'.sub (outs r') (by rw [ers]; exact hv)⟩
      | new h =>
        obtain ⟨t, h1, h2⟩ := h
        refine ⟨t, h1 (), h2 (L2.start N vs) F0 H _ r0 fun p σ' F' H' s' r' o' hp hn hh => hq (.ref p) F' H' (by rw [e0] at s'; exact s') r'.sub (outs r') (by
          rw [ers]
          refine ⟨p, rfl, ?_, hh⟩
          rcases hp with z | z
          · rw [e1] at z
            simp at z
          · exact z)⟩
      | fall h =>
        obtain ⟨t, h1, h2⟩ := h
        refine ⟨t, h1 (), h2 (L2.start N vs) F0 H _ r0 fun σ' F' H' s' r' o' => hq .non F' H' (by rw [e0] at s'; exact s') r'.sub (outs r') (by rw [ers]; rfl)⟩
    exact key rfl hb
end Wk

/-! Wk9: built-ins, methods, subscripts, slices, displays. -/
namespace Wk
open PySem L2

section
variable {ι : Type} {X : ι → Cx} {S : Sit} {sl sl1 sl2 sl3 : List Slot} {α β τ ρ : Type} [Rep α] [Rep β] [Rep ρ] {a : α} {b : β} {e e1 e2 e3 tg iter elt : Expr} {es : List Expr} {pos p1 p2 p3 cpos apos : Pos} {scope : Scope} {x : Str} {as : List Arg}
/-- a built-in function by values -/
theorem x_callB {id : String} {r : List V → Hp → VK → Prop} (f : Fam X S) (hc : ∀ i, CallR (X i) (.builtin id) r) (ha : A X (e :: es) sl sl1 as) (hr : ∀ σ F H H0 vs, Reg F H σ sl1 → Args σ H0 F H vs as → ∀ Q : VK, (∀ v, Rep.rep F v b → Q v H) → r vs H Q)
    (hg : ∀ i, Gl (X i) x) (hm : S.mg x = none) (hv : bootBuiltins x = some (.builtin id)) (hn : x ≠ "__name__" := by decide) (hdb : (x == ("__debug__" : Str)) = false := by decide)
    (he : ∀ i, starEach (e :: es) (X i).env = (false, eval e (X i).env) :: starEach es (X i).env := by intro _; rfl) (hpl : ∀ i, (backTo pos (starEach es (X i).env)).any (·.1) = false := by intro _; rfl) : E X (.Call (.Name x p1) (e :: es) [] pos) sl sl1 b := by
  obtain ⟨ta, a1, a2⟩ := ha
  exact ⟨_, fun i => pe_callB (hc i) (hg i) (by rw [f.mg i]; exact hm) hv (a1 i) hn hdb (he i) (hpl i), a2.1, fun σ F H g Q q => a2.2 σ F H g _ fun vs F1 H1 s1 g1 hvs => hr σ F1 H1 H vs g1 hvs Q fun v hv => q v F1 H1 s1 g1 hv⟩
theorem x_callBN {id : String} {r : List V → Hp → VK → Prop} {c : Ct} (f : Fam X S) (hc : ∀ i, CallR (X i) (.builtin id) r) (ha : A X (e :: es) sl sl1 as) (hr : ∀ σ F H H0 vs, Reg F H σ sl1 → Args σ H0 F H vs as → ∀ Q : VK, (∀ o, c.A F o → ∀ p, H p = none → Q (.ref p) (upd H p o)) → r vs H Q)
    (hg : ∀ i, Gl (X i) x) (hm : S.mg x = none) (hv : bootBuiltins x = some (.builtin id)) (hn : x ≠ "__name__" := by decide) (hdb : (x == ("__debug__" : Str)) = false := by decide)
    (he : ∀ i, starEach (e :: es) (X i).env = (false, eval e (X i).env) :: starEach es (X i).env := by intro _; rfl) (hpl : ∀ i, (backTo pos (starEach es (X i).env)).any (·.1) = false := by intro _; rfl) : EN X (.Call (.Name x p1) (e :: es) [] pos) sl sl1 c := by
  obtain ⟨ta, a1, a2⟩ := ha
  exact ⟨_, fun i => pe_callB (hc i) (hg i) (by rw [f.mg i]; exact hm) hv (a1 i) hn hdb (he i) (hpl i), a2.1, fun σ F H g Q q => a2.2 σ F H g _ fun vs F1 H1 s1 g1 hvs => hr σ F1 H1 H vs g1 hvs Q fun o ho p hp => new_end (sl := sl) q s1 g1 ho p hp⟩
theorem x_callTy {id : String} {r : List V → Hp → VK → Prop} (f : Fam X S) (hc : ∀ i, CallR (X i) (.type id) r) (ha : A X (e :: es) sl sl1 as) (hr : ∀ σ F H H0 vs, Reg F H σ sl1 → Args σ H0 F H vs as → ∀ Q : VK, (∀ v, Rep.rep F v b → Q v H) → r vs H Q)
    (hg : ∀ i, Gl (X i) x) (hm : S.mg x = none) (hv : bootBuiltins x = some (.type id)) (hn : x ≠ "__name__" := by decide) (hdb : (x == ("__debug__" : Str)) = false := by decide)
    (he : ∀ i, starEach (e :: es) (X i).env = (false, eval e (X i).env) :: starEach es (X i).env := by intro _; rfl) (hpl : ∀ i, (backTo pos (starEach es (X i).env)).any (·.1) = false := by intro _; rfl) : E X (.Call (.Name x p1) (e :: es) [] pos) sl sl1 b := by
  obtain ⟨ta, a1, a2⟩ := ha
  exact ⟨_, fun i => pe_callTy (hc i) (hg i) (by rw [f.mg i]; exact hm) hv (a1 i) hn hdb (he i) (hpl i), a2.1, fun σ F H g Q q => a2.2 σ F H g _ fun vs F1 H1 s1 g1 hvs => hr σ F1 H1 H vs g1 hvs Q fun v hv => q v F1 H1 s1 g1 hv⟩
theorem x_callTyN {id : String} {r : List V → Hp → VK → Prop} {c : Ct} (f : Fam X S) (hc : ∀ i, CallR (X i) (.type id) r) (ha : A X (e :: es) sl sl1 as) (hr : ∀ σ F H H0 vs, Reg F H σ sl1 → Args σ H0 F H vs as → ∀ Q : VK, (∀ o, c.A F o → ∀ p, H p = none → Q (.ref p) (upd H p o)) → r vs H Q)
    (hg : ∀ i, Gl (X i) x) (hm : S.mg x = none) (hv : bootBuiltins x = some (.type id)) (hn : x ≠ "__name__" := by decide) (hdb : (x == ("__debug__" : Str)) = false := by decide)
    (he : ∀ i, starEach (e :: es) (X i).env = (false, eval e (X i).env) :: starEach es (X i).env := by intro _; rfl) (hpl : ∀ i, (backTo pos (starEach es (X i).env)).any (·.1) = false := by intro _; rfl) : EN X (.Call (.Name x p1) (e :: es) [] pos) sl sl1 c := by
  obtain ⟨ta, a1, a2⟩ := ha
  exact ⟨_, fun i => pe_callTy (hc i) (hg i) (by rw [f.mg i]; exact hm) hv (a1 i) hn hdb (he i) (hpl i), a2.1, fun σ F H g Q q => a2.2 σ F H g _ fun vs F1 H1 s1 g1 hvs => hr σ F1 H1 H vs g1 hvs Q fun o ho p hp => new_end (sl := sl) q s1 g1 ho p hp⟩
/-- one argument, a value -/
theorem args1 {σ : L2.St} {H0 F H : Hp} {vs : List V} (h : Args σ H0 F H vs [va a]) : ∃ v, vs = [v] ∧ Rep.rep F v a := by
  match vs, h with
  | [v], h => exact ⟨v, rfl, h.1⟩
theorem args2 {σ : L2.St} {H0 F H : Hp} {vs : List V} (h : Args σ H0 F H vs [va a, va b]) : ∃ v w, vs = [v, w] ∧ Rep.rep F v a ∧ Rep.rep F w b := by
  match vs, h with
  | [v, w], h => exact ⟨v, w, rfl, h.1, h.2.1⟩
/-- an argument that is a slot's object -/
theorem argsS {σ : L2.St} {H0 F H : Hp} {vs : List V} {j : Nat} (h : Args σ H0 F H vs [.s j]) : ∃ v, vs = [v] ∧ σ[j]? = some (some v) := by
  match vs, h with
  | [v], h => exact ⟨v, rfl, h.1⟩
/-- a slot's object, read -/
theorem slot_read {F H : Hp} {σ : L2.St} {j : Nat} {c : Ct} {v : V} (g : Reg F H σ sl) (hj : sl[j]? = some (.own c) ∨ ∃ q, sl[j]? = some (.par q c)) (hv : σ[j]? = some (some v)) : ∃ p o, v = .ref p ∧ H p = some o ∧ c.A F o ∧ F p = none := by
  have hh : ∃ s, sl[j]? = some s ∧ (s = .own c ∨ ∃ q, s = .par q c) := by
    rcases hj with h | ⟨q, h⟩
    · exact ⟨_, h, .inl rfl⟩
    · exact ⟨_, h, .inr ⟨q, rfl⟩⟩
  obtain ⟨s, h1, h2⟩ := hh
  obtain ⟨p, e1, ⟨e2, o, e3, e4⟩, _, _⟩ := g.lend h1 h2
  rw [hv] at e1
  have : v = .ref p := by simpa using e1
  exact ⟨p, o, this, e3, e4, e2⟩

/-! ### len, abs, min, max, int, all, divmod -/
theorem x_lenS {l : Txt} (f : Fam X S) (h : E X e sl sl1 l) (hl : l.length ≤ 16777216) (hg : ∀ i, Gl (X i) "len") (hm : S.mg "len" = none) (he : ∀ i, starEach (e :: []) (X i).env = (false, eval e (X i).env) :: starEach [] (X i).env := by intro _; rfl) : E X (.Call (.Name "len" p1) [e] [] pos) sl sl1 (l.length : Int) :=
  x_callB f (fun _ => call_len_str) (a_v h a_nil he) (fun σ F H H0 vs g hA Q q => by
    obtain ⟨v, rfl, hv⟩ := args1 hA
    exact ⟨tx l, by rw [show v = _ from hv]; rfl, by rw [tx_len, sizeLine_eq]; exact hl, by rw [tx_len]; exact q _ rfl⟩) hg hm PySem.boot_len (he := he)
theorem len_seq (f : Fam X S) (i : ι) : CallR (X i) (.builtin "len") (fun xs H Q => ∃ p ys, xs = [.ref p] ∧ (SqL S.K H p ys ∨ SqT S.K H p ys) ∧ Q (.int ys.length) H) := by
  have z := call_len_seq (X := X i)
  rw [f.K i] at z
  exact z
theorem x_lenL {xs : List α} (f : Fam X S) (h : E X e sl sl1 xs) (hg : ∀ i, Gl (X i) "len") (hm : S.mg "len" = none) (he : ∀ i, starEach (e :: []) (X i).env = (false, eval e (X i).env) :: starEach [] (X i).env := by intro _; rfl) : E X (.Call (.Name "len" p1) [e] [] pos) sl sl1 (xs.length : Int) :=
  x_callB f (len_seq f) (a_v h a_nil he) (fun σ F H H0 vs g hA Q q => by
    obtain ⟨v, rfl, p, ws, rfl, hp, hr⟩ := args1 hA
    exact ⟨p, ws, rfl, .inl (SqL.of (g.sub _ _ hp)), q _ (by rw [hr.len]; rfl)⟩) hg hm PySem.boot_len (he := he)
/-- len of a slot's list -/
theorem x_lenO {xs : List α} (f : Fam X S) (j : Nat) (hN : S.N[j]? = some x) (hv : ∀ i, Vis (X i).env.scope x) (hj : sl[j]? = some (.own (cl xs)) ∨ ∃ q, sl[j]? = some (.par q (cl xs))) (hg : ∀ i, Gl (X i) "len") (hm : S.mg "len" = none)
    (hd : (x == ("__debug__" : Str)) = false := by decide) (hcd : (x == ("__classdict__" : Str)) = false := by decide) : E X (.Call (.Name "len" p1) [.Name x p2] [] pos) sl sl (xs.length : Int) :=
  x_callB f (len_seq f) (a_s f j hN hv hj a_nil hd hcd (fun _ => rfl)) (fun σ F H H0 vs g hA Q q => by
    obtain ⟨v, rfl, hv⟩ := argsS hA
    obtain ⟨p, o, rfl, hp, ⟨ws, rfl, hr⟩, _⟩ := slot_read g hj hv
    exact ⟨p, ws, rfl, .inl (SqL.of hp), q _ (by rw [hr.len]; rfl)⟩) hg hm PySem.boot_len (he := fun _ => rfl)
theorem x_abs {i : Int} (f : Fam X S) (h : E X e sl sl1 i) (hg : ∀ i, Gl (X i) "abs") (hm : S.mg "abs" = none) (he : ∀ i, starEach (e :: []) (X i).env = (false, eval e (X i).env) :: starEach [] (X i).env := by intro _; rfl) : E X (.Call (.Name "abs" p1) [e] [] pos) sl sl1 (if i < 0 then -i else i) :=
  x_callB f (fun _ => call_abs) (a_v h a_nil he) (fun σ F H H0 vs g hA Q q => by
    obtain ⟨v, rfl, hv⟩ := args1 hA
    exact ⟨i, by rw [show v = _ from hv]; rfl, q _ rfl⟩) hg hm (by decide +kernel) (he := he)
theorem x_int1 {i : Int} (f : Fam X S) (h : E X e sl sl1 i) (hg : ∀ i, Gl (X i) "int") (hm : S.mg "int" = none) (he : ∀ i, starEach (e :: []) (X i).env = (false, eval e (X i).env) :: starEach [] (X i).env := by intro _; rfl) : E X (.Call (.Name "int" p1) [e] [] pos) sl sl1 i :=
  x_callTy f (fun _ => call_int1) (a_v h a_nil he) (fun σ F H H0 vs g hA Q q => by
    obtain ⟨v, rfl, hv⟩ := args1 hA
    exact .inl ⟨i, by rw [show v = _ from hv]; rfl, q _ rfl⟩) hg hm PyProof.Rows.boot_int (he := he)
theorem x_min2 {i j : Int} (f : Fam X S) (h : A X [e1, e2] sl sl1 [va i, va j]) (hg : ∀ i, Gl (X i) "min") (hm : S.mg "min" = none) (he : ∀ i, starEach [e1, e2] (X i).env = (false, eval e1 (X i).env) :: starEach [e2] (X i).env := by intro _; rfl) (hpl : ∀ i, (backTo pos (starEach [e2] (X i).env)).any (·.1) = false := by intro _; rfl) :
    E X (.Call (.Name "min" p1) [e1, e2] [] pos) sl sl1 (if j < i then j else i) :=
  x_callB f (fun i => call_min2 (f.calm i)) h (fun σ F H H0 vs g hA Q q => by
    obtain ⟨v, w, rfl, hv, hw⟩ := args2 hA
    exact ⟨i, j, by rw [show v = _ from hv, show w = _ from hw]; rfl, q _ rfl⟩) hg hm (by decide +kernel) (he := he) (hpl := hpl)
theorem x_max2 {i j : Int} (f : Fam X S) (h : A X [e1, e2] sl sl1 [va i, va j]) (hg : ∀ i, Gl (X i) "max") (hm : S.mg "max" = none) (he : ∀ i, starEach [e1, e2] (X i).env = (false, eval e1 (X i).env) :: starEach [e2] (X i).env := by intro _; rfl) (hpl : ∀ i, (backTo pos (starEach [e2] (X i).env)).any (·.1) = false := by intro _; rfl) :
    E X (.Call (.Name "max" p1) [e1, e2] [] pos) sl sl1 (if j > i then j else i) :=
  x_callB f (fun i => call_max2 (f.calm i)) h (fun σ F H H0 vs g hA Q q => by
    obtain ⟨v, w, rfl, hv, hw⟩ := args2 hA
    exact ⟨i, j, by rw [show v = _ from hv, show w = _ from hw]; rfl, q _ rfl⟩) hg hm (by decide +kernel) (he := he) (hpl := hpl)
theorem x_all {bs : List Bool} (f : Fam X S) (h : E X e sl sl1 bs) (hg : ∀ i, Gl (X i) "all") (hm : S.mg "all" = none) (he : ∀ i, starEach (e :: []) (X i).env = (false, eval e (X i).env) :: starEach [] (X i).env := by intro _; rfl) : E X (.Call (.Name "all" p1) [e] [] pos) sl sl1 (bs.all id) :=
  x_callB f (id := "all") (r := rAll S.K) (fun i => by
    have z := cr_all (f.calm i)
    rw [f.K i] at z
    exact z) (a_v h a_nil he) (fun σ F H H0 vs g hA Q q => by
    obtain ⟨v, rfl, p, ws, rfl, hp, hr⟩ := args1 hA
    rw [Reps.flat] at hr
    subst hr
    exact ⟨p, bs, rfl, SqL.of (g.sub _ _ hp), q _ rfl⟩) hg hm (by decide +kernel) (he := he)
end
end Wk

/-! Wk10: subscripts, slices, displays, methods of lists and texts, conversions. -/
namespace Wk
open PySem L2

section
variable {ι : Type} {X : ι → Cx} {S : Sit} {sl sl1 sl2 sl3 : List Slot} {α β τ ρ : Type} [Rep α] [Rep β] [Rep ρ] {a : α} {b : β} {e e1 e2 e3 tg iter elt : Expr} {es : List Expr} {pos p1 p2 p3 cpos apos : Pos} {scope : Scope} {x : Str} {as : List Arg}
/-! ### values by tests -/
theorem x_if {c : Bool} (hc : T X e sl sl1 c) (h1 : c = true → E X e1 sl1 sl2 a) (h2 : c = false → E X e2 sl1 sl2 a) : E X (.IfExp e e1 e2 pos) sl sl2 a := by
  obtain ⟨t, a1, a2⟩ := hc
  cases c with
  | true =>
    obtain ⟨te, b1, b2⟩ := h1 rfl
    refine ⟨_, fun i => pe_ifExp (a1 i) (b1 i) pe_nev, a2.1.trans b2.1, fun σ F H r Q q => a2.2 σ F H r _ fun F1 H1 s1 r1 => ?_⟩
    rw [if_pos rfl]
    exact b2.2 σ F1 H1 r1 Q fun v F2 H2 s2 r2 hv => q v F2 H2 (s1.trans s2 fun p hp => .inl (by rw [owns_kd a2.1]; exact hp)) r2 hv
  | false =>
    obtain ⟨te, b1, b2⟩ := h2 rfl
    refine ⟨_, fun i => pe_ifExp (a1 i) pe_nev (b1 i), a2.1.trans b2.1, fun σ F H r Q q => a2.2 σ F H r _ fun F1 H1 s1 r1 => ?_⟩
    rw [if_neg Bool.false_ne_true]
    exact b2.2 σ F1 H1 r1 Q fun v F2 H2 s2 r2 hv => q v F2 H2 (s1.trans s2 fun p hp => .inl (by rw [owns_kd a2.1]; exact hp)) r2 hv
theorem x_one {op : BoolOp} {c : Bool} (h : E X e sl sl1 c) : E X (.BoolOp op [e] pos) sl sl1 c := h.imp fun _ q => ⟨fun i => pe_one (q.1 i), q.2⟩
theorem x_and {c d : Bool} (h : E X e sl sl1 c) (h2 : c = true → E X (.BoolOp .And (e1 :: es) pos) sl1 sl1 d) : E X (.BoolOp .And (e :: e1 :: es) pos) sl sl1 (c && d) := by
  obtain ⟨t, a1, a2⟩ := h
  cases c with
  | true =>
    obtain ⟨u, b1, b2⟩ := h2 rfl
    refine ⟨_, fun i => pe_and (a1 i) (b1 i), a2.1, fun σ F H r Q q => a2.2 σ F H r _ fun v F1 H1 s1 r1 hv => ⟨true, hv, ?_⟩⟩
    rw [if_pos rfl]
    exact b2.2 σ F1 H1 r1 Q fun v F2 H2 s2 r2 hv => q v F2 H2 (s1.trans s2 fun p hp => .inl (by rw [owns_kd a2.1]; exact hp)) r2 hv
  | false =>
    refine ⟨_, fun i => pe_and (a1 i) pe_nev, a2.1, fun σ F H r Q q => a2.2 σ F H r _ fun v F1 H1 s1 r1 hv => ⟨false, hv, ?_⟩⟩
    rw [if_neg Bool.false_ne_true]
    exact q _ F1 H1 s1 r1 rfl
theorem x_or {c d : Bool} (h : E X e sl sl1 c) (h2 : c = false → E X (.BoolOp .Or (e1 :: es) pos) sl1 sl1 d) : E X (.BoolOp .Or (e :: e1 :: es) pos) sl sl1 (c || d) := by
  obtain ⟨t, a1, a2⟩ := h
  cases c with
  | true =>
    refine ⟨_, fun i => pe_or (a1 i) pe_nev, a2.1, fun σ F H r Q q => a2.2 σ F H r _ fun v F1 H1 s1 r1 hv => ⟨true, hv, ?_⟩⟩
    rw [if_pos rfl]
    exact q _ F1 H1 s1 r1 rfl
  | false =>
    obtain ⟨u, b1, b2⟩ := h2 rfl
    refine ⟨_, fun i => pe_or (a1 i) (b1 i), a2.1, fun σ F H r Q q => a2.2 σ F H r _ fun v F1 H1 s1 r1 hv => ⟨false, hv, ?_⟩⟩
    rw [if_neg Bool.false_ne_true]
    exact b2.2 σ F1 H1 r1 Q fun v F2 H2 s2 r2 hv => q v F2 H2 (s1.trans s2 fun p hp => .inl (by rw [owns_kd a2.1]; exact hp)) r2 hv
theorem x_not {c : Bool} (h : E X e sl sl1 c) : E X (.UnaryOp .Not e pos) sl sl1 (!c) := by
  obtain ⟨t, a1, a2⟩ := h
  exact ⟨_, fun i => pe_not (a1 i), a2.1, fun σ F H r Q q => a2.2 σ F H r _ fun v F1 H1 s1 r1 hv => ⟨c, hv, q _ F1 H1 s1 r1 rfl⟩⟩
/-- i op j op' k of ints, by the two answers -/
theorem t_chainI {op op' : CmpOp} {g g' : Int → Int → Bool} {i j k : Int} (ho : ∀ n, OpR (X n) (compareOp op) (rI0 fun i j => .bl (g i j))) (ho' : ∀ n, OpR (X n) (compareOp op') (rI0 fun i j => .bl (g' i j))) (ha : E X e1 sl sl i) (hb : E X e2 sl sl j) (hc : E X e3 sl sl k) (hm : lastMarks [op, op'] [e2, e3] = false := by rfl) :
    T X (.Compare e1 [op, op'] [e2, e3] pos) sl sl (g i j && g' j k) := by
  obtain ⟨ta, a1, a2⟩ := ha
  obtain ⟨tb, b1, b2⟩ := hb
  obtain ⟨tc, c1, c2⟩ := hc
  refine ⟨_, fun n => pt_chain (ho n) (ho' n) (a1 n) (b1 n) (c1 n) hm, rfl, fun σ F H r Q q => ev2 a2 b2 r fun x y F1 H1 s1 r1 hx hy => ⟨i, j, hx, hy, g i j, rfl, ?_⟩⟩
  cases hg : g i j with
  | true =>
    rw [if_pos rfl]
    refine c2.2 σ F1 H1 r1 _ fun z F2 H2 s2 r2 hz => ⟨j, k, hy, hz, g' j k, rfl, ?_⟩
    have w := q F2 H2 (s1.trans s2 fun p hp => .inl hp) r2
    rw [hg, Bool.true_and] at w
    exact w
  | false =>
    rw [if_neg Bool.false_ne_true]
    have w := q F1 H1 s1 r1
    rw [hg, Bool.false_and] at w
    exact ⟨false, rfl, w⟩

/-! ### subscripts -/
theorem x_ix {r : R2} (hr : ∀ i, IxR (X i) r) (ha : E X e1 sl sl1 a) (hb : E X e2 sl1 sl2 b) (hs : PlainIx e2) {γ : Type} [Rep γ] {c : γ} (hh : ∀ F H x y, Same F H → Rep.rep F x a → Rep.rep F y b → ∀ Q : VK, (∀ v, Rep.rep F v c → Q v H) → r x y H Q) : E X (.Subscript e1 e2 pos) sl sl2 c := by
  obtain ⟨ta, a1, a2⟩ := ha
  obtain ⟨tb, b1, b2⟩ := hb
  exact ⟨_, fun i => pe_ix (hr i) (a1 i) (b1 i) hs, ev_op a2 b2 hh⟩
theorem ixL (f : Fam X S) (i : ι) : IxR (X i) (rIxL S.K) := by
  have z := ix_list (X := X i)
  rw [f.K i] at z
  exact z
theorem ixT (f : Fam X S) (i : ι) : IxR (X i) (rIxT S.K) := by
  have z := ix_tup (X := X i)
  rw [f.K i] at z
  exact z
theorem Reps.atI {F : Hp} {vs : List V} {as : List α} {i : Int} (h : Reps F vs as) (ha : L2.atI as i = some a) : ∃ v, L2.atI vs i = some v ∧ Rep.rep F v a := by
  unfold L2.atI at ha ⊢
  rw [h.len]
  cases z : ixN as.length i with
  | none => rw [z] at ha; cases ha
  | some j =>
    rw [z] at ha
    obtain ⟨v, h1, h2⟩ := h.get (i := j) ha
    exact ⟨v, h1, h2⟩
theorem x_ixL {xs : List α} {i : Int} (f : Fam X S) (ha : E X e1 sl sl1 xs) (hb : E X e2 sl1 sl2 i) (hi : L2.atI xs i = some a) (hs : PlainIx e2 := by intro _ _; rfl) : E X (.Subscript e1 e2 pos) sl sl2 a :=
  x_ix (ixL f) ha hb hs fun F H x y sm ⟨p, vs, e, h1, h2⟩ hy Q q => by
    obtain ⟨v, hv, rv⟩ := h2.atI hi
    exact ⟨p, vs, i, v, e, hy, SqL.of (sm _ _ h1), hv, q v rv⟩
theorem x_ixS {l : Txt} {i : Int} {c : Nat} (ha : E X e1 sl sl1 l) (hb : E X e2 sl1 sl2 i) (hi : L2.atI l i = some c) (hl : l.length ≤ 16777216) (hs : PlainIx e2 := by intro _ _; rfl) : E X (.Subscript e1 e2 pos) sl sl2 ([c] : Txt) :=
  x_ix (fun i => ix_str (X := X i)) ha hb hs fun F H x y sm hx hy Q q => ⟨tx l, i, c, hx, hy, by rw [tx_len, sizeLine_eq]; exact hl, by rw [tx_cps]; exact hi, q _ rfl⟩
/-- a slot's list, read at a place -/
theorem x_ixO {xs : List α} {i : Int} (f : Fam X S) (j : Nat) (hN : S.N[j]? = some x) (hv : ∀ i, Vis (X i).env.scope x) (hb : E X e2 sl sl1 i) (hj : sl1[j]? = some (.own (cl xs)) ∨ ∃ q, sl1[j]? = some (.par q (cl xs))) (hj0 : (∃ c, sl[j]? = some (.own c)) ∨ ∃ q c, sl[j]? = some (.par q c)) (hi : L2.atI xs i = some a) (hs : PlainIx e2 := by intro _ _; rfl)
    (hd : (x == ("__debug__" : Str)) = false := by decide) (hcd : (x == ("__classdict__" : Str)) = false := by decide) : E X (.Subscript (.Name x p1) e2 pos) sl sl1 a := by
  obtain ⟨tb, b1, b2⟩ := hb
  refine ⟨_, fun i => pe_ix (ixL f i) (pe_var (i := j) (by rw [f.N i]; exact hN) (hv i) hd hcd) (b1 i) hs, b2.1, fun σ F H r Q q => ?_⟩
  have hh : ∃ s c, sl[j]? = some s ∧ (s = .own c ∨ ∃ q, s = .par q c) := by
    rcases hj0 with ⟨c, h⟩ | ⟨q, c, h⟩
    · exact ⟨_, c, h, .inl rfl⟩
    · exact ⟨_, c, h, .inr ⟨q, rfl⟩⟩
  obtain ⟨s, c, h1, h2⟩ := hh
  obtain ⟨p, e1, _, _, _⟩ := r.lend h1 h2
  refine ⟨.ref p, e1, b2.2 σ F H r _ fun y F1 H1 s1 r1 hy => ?_⟩
  obtain ⟨p', o, e, hp, ⟨vs, rfl, hr⟩, fp⟩ := slot_read r1 hj e1
  obtain ⟨v, hv, rv⟩ := hr.atI hi
  exact ⟨p', vs, i, v, e, hy, SqL.of hp, hv, q v F1 H1 s1 r1 rv⟩

/-! ### slices -/
def O (X : ι → Cx) (e : Option Expr) (sl sl1 : List Slot) (o : Option Int) : Prop := ∃ t, (∀ i, PO (X i) e t) ∧ sl.map Slot.kd = sl1.map Slot.kd ∧ ∀ σ F H, Reg F H σ sl → ∀ Q : Option Int → Hp → Prop, (∀ F' H', Stp (owns σ sl) F H F' H' → Reg F' H' σ sl1 → Q o H') → t σ H Q
theorem o_none : O X none sl sl none := ⟨_, fun _ => po_none, rfl, fun σ F H r Q q => q F H (.refl _ _ _) r⟩
theorem o_some {i : Int} (h : E X e sl sl1 i) : O X (some e) sl sl1 (some i) := by
  obtain ⟨t, a1, a2⟩ := h
  exact ⟨_, fun i => po_some (a1 i), a2.1, fun σ F H r Q q => a2.2 σ F H r _ fun v F1 H1 s1 r1 hv => ⟨i, hv, q F1 H1 s1 r1⟩⟩
def cutL {γ : Type} (xs : List γ) (lo hi : Option Int) : List γ := (xs.drop (HT.sIx xs.length 0 lo)).take (HT.sIx xs.length xs.length hi - HT.sIx xs.length 0 lo)
theorem x_slS {l : Txt} {lo hi : Option Expr} {ol oh : Option Int} (h : E X e sl sl1 l) (h1 : O X lo sl1 sl2 ol) (h2 : O X hi sl2 sl3 oh) (hl : l.length ≤ 16777216) : E X (.Subscript e (.Slice lo hi none p2) pos) sl sl3 (cutL l ol oh) := by
  obtain ⟨t, a1, a2⟩ := h
  obtain ⟨u, b1, b2, b3⟩ := h1
  obtain ⟨w, c1, c2, c3⟩ := h2
  refine ⟨_, fun i => pe_slice sl_str (a1 i) (b1 i) (c1 i), a2.1.trans (b2.trans c2), fun σ F H r Q q => a2.2 σ F H r _ fun v F1 H1 s1 r1 hv => b3 σ F1 H1 r1 _ fun F2 H2 s2 r2 => c3 σ F2 H2 r2 _ fun F3 H3 s3 r3 => ?_⟩
  have k1 : owns σ sl = owns σ sl1 := owns_kd a2.1
  have k2 : owns σ sl1 = owns σ sl2 := owns_kd b2
  refine ⟨tx l, hv, by rw [tx_len, sizeLine_eq]; exact hl, q _ F3 H3 ((s1.trans s2 fun p hp => .inl (by rw [k1]; exact hp)).trans s3 fun p hp => .inl (by rw [k1, k2]; exact hp)) r3 ?_⟩
  show V.str _ = V.str _
  unfold cutS cutL
  rw [tx_len, tx_cps]
  rfl
theorem slL (f : Fam X S) (i : ι) : SlR (X i) (rSlL S.K) := by
  have z := sl_list (X := X i)
  rw [f.K i] at z
  exact z
theorem x_slL {xs : List α} {lo hi : Option Expr} {ol oh : Option Int} (f : Fam X S) (h : E X e sl sl1 xs) (h1 : O X lo sl1 sl2 ol) (h2 : O X hi sl2 sl3 oh) : EN X (.Subscript e (.Slice lo hi none p2) pos) sl sl3 (cl (cutL xs ol oh)) := by
  obtain ⟨t, a1, a2⟩ := h
  obtain ⟨u, b1, b2, b3⟩ := h1
  obtain ⟨w, c1, c2, c3⟩ := h2
  refine ⟨_, fun i => pe_slice (slL f i) (a1 i) (b1 i) (c1 i), a2.1.trans (b2.trans c2), fun σ F H r Q q => a2.2 σ F H r _ fun v F1 H1 s1 r1 hv => b3 σ F1 H1 r1 _ fun F2 H2 s2 r2 => c3 σ F2 H2 r2 _ fun F3 H3 s3 r3 => ?_⟩
  have k1 : owns σ sl = owns σ sl1 := owns_kd a2.1
  have k2 : owns σ sl1 = owns σ sl2 := owns_kd b2
  obtain ⟨p, vs, rfl, hp, hr⟩ := Rep.mono (s2.fr.trans s3.fr) hv
  refine ⟨p, vs, rfl, SqL.of (r3.sub _ _ hp), fun p3 h3 => new_end (sl := sl) q ((s1.trans s2 fun p hp => .inl (by rw [k1]; exact hp)).trans s3 fun p hp => .inl (by rw [k1, k2]; exact hp)) r3 ⟨_, rfl, ?_⟩ p3 h3⟩
  unfold cutV cutL
  rw [hr.len]
  exact (hr.drop _).take _

/-! ### displays -/
/-- all arguments are values of one kind -/
theorem args_reps {σ : L2.St} {H0 F H : Hp} : ∀ {vs : List V} {xs : List α}, Args σ H0 F H vs (xs.map va) → Reps F vs xs
  | [], [], _ => trivial
  | [], _ :: _, h => h.elim
  | _ :: _, [], h => h.elim
  | v :: vs, y :: ys, h => ⟨h.1, args_reps h.2⟩
theorem x_list {xs : List α} (h : A X es sl sl1 (xs.map va)) (hl : xs.length ≤ 16777216) : EN X (.List es pos) sl sl1 (cl xs) := by
  obtain ⟨t, a1, a2⟩ := h
  refine ⟨_, fun i => pe_lst (a1 i), a2.1, fun σ F H r Q q => a2.2 σ F H r _ fun vs F1 H1 s1 r1 hvs => ⟨?_, fun p hp => new_end (sl := sl) q s1 r1 ⟨vs, rfl, args_reps hvs⟩ p hp⟩⟩
  rw [(args_reps hvs).len, sizeLine_eq]
  exact hl
theorem x_pair {k : Nat} (h : A X [e1, e2] sl sl1 [va a, va b]) : E X (.Tuple [e1, e2] k pos) sl sl1 (a, b) := by
  obtain ⟨t, a1, a2⟩ := h
  refine ⟨_, fun i => pe_tup (a1 i), a2.1, fun σ F H r Q q => a2.2 σ F H r _ fun vs F1 H1 s1 r1 hvs => ?_⟩
  obtain ⟨v, w, rfl, hv, hw⟩ := args2 hvs
  refine ⟨by rw [sizeLine_eq]; show 2 ≤ 16777216; decide, fun p hp => ?_⟩
  have fp : F1 p = none := by
    cases z : F1 p with
    | none => rfl
    | some u => rw [r1.sub p u z] at hp; cases hp
  have hn : p ∉ owns σ sl1 := fun z => (Slots.owned r1.ok p z).2 hp
  refine q (.ref p) (upd F1 p (.tup [v, w])) _ (stp_frz (s1.trans (stp_new (os := owns σ sl) hp) fun b hb => .inl hb) (s1.free hp) fp) ((r1.new hp).frz fp upd_same hn) ⟨p, v, w, rfl, upd_same, ?_, ?_⟩
  · exact Rep.mono (fun b u e => by rw [upd_ne (ne_of_none e fp)]; exact e) hv
  · exact Rep.mono (fun b u e => by rw [upd_ne (ne_of_none e fp)]; exact e) hw
/-- a = x, b = y at once: two new objects, or values -/
theorem g1_par2 (f : Fam X S) (i j : Nat) {y : Str} {c d : Ct} {k k2 : Nat} {pt pt2 : Pos} (h1 : EN X e1 sl sl1 c) (h2 : EN X e2 sl1 sl2 d) (hN : S.N[i]? = some x) (hM : S.N[j]? = some y) (hij : i ≠ j) (hx : ∀ n, (X n).env.scope.names.lookup x = some .local) (hy : ∀ n, (X n).env.scope.names.lookup y = some .local)
    (hw : ∀ n, swappedStores [.Tuple [.Name x p1, .Name y p2] k pt] (.Tuple [e1, e2] k2 pt2) (X n).env = pure (some [x, y]) := by intro _; rfl) (hs : ∀ n, swapsWithSole [.Tuple [.Name x p1, .Name y p2] k pt] (.Tuple [e1, e2] k2 pt2) pos.line (X n).env = pure false := by intro _; rfl)
    (ha : ∀ n, starEach [e1, e2] (X n).env = (false, eval e1 (X n).env) :: starEach [e2] (X n).env := by intro _; rfl) (hb : ∀ n, starEach [e2] (X n).env = (false, eval e2 (X n).env) :: starEach [] (X n).env := by intro _; rfl) :
    G1 X (.Assign [.Tuple [.Name x p1, .Name y p2] k pt] (.Tuple [e1, e2] k2 pt2) pos) sl (.next ((sl2.set i (.own c)).set j (.own d)) : Out ρ) := by
  obtain ⟨t, a1, a2⟩ := h1
  obtain ⟨u, b1, b2⟩ := h2
  refine ⟨_, fun n => ps_par (i := i) (j := j) (f.calm n) (by rw [f.N n]; exact f.nd) (by rw [f.N n]; exact hN) (by rw [f.N n]; exact hM) hij (hx n) (hy n) (pa_cons (a1 n) (pa_cons (b1 n) pa_nil (hb n)) (ha n)) (hw n) (hs n), fun σ F H D r m => a2.2 σ F H r _ fun p F1 H1 s1 r1 hp hc => b2.2 σ F1 H1 r1 _ fun q F2 H2 s2 r2 hq hd => ⟨.ref p, .ref q, rfl, ?_⟩⟩
  have k1 : owns σ sl = owns σ sl1 := owns_kd a2.1
  have k2 : owns σ sl1 = owns σ sl2 := owns_kd b2.1
  have s12 : Stp (owns σ sl) F H F2 H2 := s1.trans s2 fun p hp => .inl (by rw [k1]; exact hp)
  have hc2 : Hold F2 H2 p c := hold_step hc s2 (by rw [← k1]; exact fresh_owns r hp)
  obtain ⟨g1, o1⟩ := reg_own i s12 r2 (a2.1.trans b2.1) r hp hc2
  -- the second
  have hpq : q ≠ p := fun z => by
    obtain ⟨_, o, ho, _⟩ := hc
    rw [z, ho] at hq
    cases hq
  have hqn : q ∉ owns (σ.set i (some (.ref p))) (sl2.set i (.own c)) := fun z => by
    have np : p ∉ owns σ sl2 := by rw [← k2, ← k1]; exact fresh_owns r hp
    rcases (owns_own (c := c) (σ := σ) (sl := sl2) i np r2.nd).2.1 q z with y | y
    · exact hpq y
    · rw [← k2, ← k1] at y
      exact (Slots.owned r.ok q y).2 (s1.free hq)
  obtain ⟨n1, n2, n3⟩ := owns_own (c := d) (σ := σ.set i (some (.ref p))) (sl := sl2.set i (.own c)) j hqn g1.nd
  refine m _ F2 H2 s12 ⟨g1.sub, n1, g1.ok.put (s := .own d) (o := some (.ref q)) ⟨q, rfl, hd⟩ j⟩ ⟨fun w hw => ?_, fun w hw => o1.par w (parO_put (s := .own d) (by intro p c h; cases h) j w hw)⟩
  rcases n3 w hw with z | z
  · subst z
    exact .inr (s1.free hq)
  · exact o1.own w z

/-! ### methods of a slot's list -/
theorem x_append {xs : List α} (f : Fam X S) (j : Nat) {s : Slot} (hN : S.N[j]? = some x) (hv : ∀ i, Vis (X i).env.scope x) (h : E X e sl sl1 a) (hj : sl1[j]? = some s) (hs : s = .own (cl xs) ∨ ∃ q, s = .par q (cl xs)) (hj0 : (∃ c, sl[j]? = some (.own c)) ∨ ∃ q c, sl[j]? = some (.par q c)) (hl : xs.length < 16777216)
    (hk : ∃ ys : List α, sl[j]? = some (.own (cl ys)) ∨ ∃ q, sl[j]? = some (.par q (cl ys)))
    (hd : (x == ("__debug__" : Str)) = false := by decide) (hcd : (x == ("__classdict__" : Str)) = false := by decide) (hbase : ∀ i, attributeBase (.Name x p1) "append" (X i).env (eval (.Name x p1) (X i).env) = eval (.Name x p1) (X i).env := by intro _; rfl)
    (hfew : ∀ i, ((backTo cpos (starEach (e :: []) (X i).env)).all (fun x => !x.1) && (backToKw cpos (keywordEach [] (X i).env)).all (fun x => x.1.isSome) && decide ((e :: []).length + ([] : List Keyword).length + (if ([] : List Keyword).isEmpty then 0 else 1) < 30)) = true := by intro _; rfl)
    (hline : (apos.endLine == cpos.line) = true := by rfl) (he : ∀ i, starEach (e :: []) (X i).env = (false, eval e (X i).env) :: starEach [] (X i).env := by intro _; rfl) (hpl : ∀ i, (backTo cpos (starEach [] (X i).env)).any (·.1) = false := by intro _; rfl) :
    E X (.Call (.Attribute (.Name x p1) "append" apos) [e] [] cpos) sl (sl1.set j (s.to (cl (xs ++ [a])))) () := by
  obtain ⟨te, a1, a2⟩ := h
  refine ⟨tBM S.K "list" rAppend (tVar j) (tCons te tNil), fun i => ?_, a2.1.trans (kd_set _ hj), fun σ F H r Q q => ?_⟩
  · have z := pe_bm (cpos := cpos) (apos := apos) PySem.F.plainAttrs_list PySem.F.slot_list_append PySem.F.type_list_append mt_append (pe_var (pos := p1) (i := j) (by rw [f.N i]; exact hN) (hv i) hd hcd) (pa_cons (a1 i) pa_nil (he i)) (hbase i) (hfew i) hline (he i) (hpl i)
    rw [f.K i] at z
    exact z
  · obtain ⟨ys, hk⟩ := hk
    have hh : ∃ s, sl[j]? = some s ∧ (s = .own (cl ys) ∨ ∃ q, s = .par q (cl ys)) := by
      rcases hk with h | ⟨q, h⟩
      · exact ⟨_, h, .inl rfl⟩
      · exact ⟨_, h, .inr ⟨q, rfl⟩⟩
    obtain ⟨s0, h1, h2⟩ := hh
    obtain ⟨p, e1, ⟨_, o, ho, ws, rfl, _⟩, _, _⟩ := r.lend h1 h2
    refine ⟨.ref p, e1, .inl ⟨rfl, ws, SqL.of ho⟩, a2.2 σ F H r _ fun v F1 H1 s1 r1 hv => ?_⟩
    obtain ⟨p', e1', ⟨fp, o, ho', vs, rfl, hr⟩, hm, wr⟩ := r1.lend hj hs
    have ep : p' = p := by
      rw [e1] at e1'
      simpa using e1'.symm
    subst ep
    have sw : Stp [p'] F1 H1 F1 (upd H1 p' (.lst (vs ++ [v]))) := stp_write (by rw [ho']; simp)
    obtain ⟨r2, s2⟩ := wr F1 (upd H1 p' (.lst (vs ++ [v]))) (cl (xs ++ [a])) sw (same_write r1.sub fp) ⟨fp, _, upd_same, _, rfl, hr.app (Reps.one hv)⟩
    exact ⟨p', vs, v, rfl, rfl, ho', by rw [hr.len, sizeLine_eq]; exact hl, q _ F1 _ (s1.trans s2 fun p hp => .inl (by rw [owns_kd a2.1]; exact hp)) r2 rfl⟩
end
end Wk

/-! Wk11: stores into a slot's list, pop, join, list(..), the script, divmod. -/
namespace Wk
open PySem L2

/-- a slot that holds an object's content c, told so that its kind is known ahead too -/
def Holds (sl : List Slot) (j : Nat) (c : Ct) : Prop := sl[j]? = some (.own c) ∨ ∃ q, sl[j]? = some (.par q c)
theorem Holds.ex {sl : List Slot} {j : Nat} {c : Ct} (h : Holds sl j c) : ∃ s, sl[j]? = some s ∧ (s = .own c ∨ ∃ q, s = .par q c) := by
  rcases h with h | ⟨q, h⟩
  · exact ⟨_, h, .inl rfl⟩
  · exact ⟨_, h, .inr ⟨q, rfl⟩⟩
/-- the content of slot j is put -/
def putC (sl : List Slot) (j : Nat) (c : Ct) : List Slot := match sl[j]? with
  | some s => sl.set j (s.to c)
  | none => sl
theorem putC_eq {sl : List Slot} {j : Nat} {s : Slot} (c : Ct) (h : sl[j]? = some s) : putC sl j c = sl.set j (s.to c) := by unfold putC; rw [h]

section
variable {ι : Type} {X : ι → Cx} {S : Sit} {sl sl1 sl2 sl3 : List Slot} {α β τ ρ : Type} [Rep α] [Rep β] [Rep ρ] {a : α} {b : β} {e e1 e2 e3 tg iter elt : Expr} {es : List Expr} {pos p1 p2 p3 p4 cpos apos : Pos} {scope : Scope} {x : Str} {as : List Arg}
/-- x[i] = e, x a slot's list; i a written or reckoned int that changes nothing -/
theorem g1_setOx {xs : List α} {c0 : Ct} {i : Int} {n : Nat} (f : Fam X S) (j : Nat) (hN : S.N[j]? = some x) (hv : ∀ i, Vis (X i).env.scope x) (h : E X e sl sl1 a) (hi : E X e2 sl1 sl2 i) (hj0 : Holds sl1 j c0) (hj : Holds sl2 j (cl xs)) (hn : ixN xs.length i = some n)
    (hd : (x == ("__debug__" : Str)) = false := by decide) (hcd : (x == ("__classdict__" : Str)) = false := by decide)
    (ha : ∀ i v, assign (.Subscript (.Name x p1) e2 p2) (X i).env v = (do
      let ov ← holding [v] (eval (.Name x p1) (X i).env)
      let iv ← holding [v, ov] (eval e2 (X i).env)
      standAt p2
      holding [v, ov, iv] (setItem ov iv v)
      release [v, ov, iv] []) := by intro _ _; rfl)
    (hs : ∀ i, swapsWithSole [.Subscript (.Name x p1) e2 p2] e pos.line (X i).env = pure false := by intro _; rfl) (hw : ∀ i, swappedStores [.Subscript (.Name x p1) e2 p2] e (X i).env = pure none := by intro _; rfl)
    (h1 : ∀ i, (assignEach [.Subscript (.Name x p1) e2 p2] (X i).env).map (·.2) = [assign (.Subscript (.Name x p1) e2 p2) (X i).env] := by intro _; rfl) : G1 X (.Assign [.Subscript (.Name x p1) e2 p2] e pos) sl (.next (putC sl2 j (cl (xs.set n a))) : Out ρ) := by
  obtain ⟨te, a1, a2⟩ := h
  obtain ⟨ti, b1, b2⟩ := hi
  obtain ⟨s, hj1, hj2⟩ := hj.ex
  obtain ⟨s0, k1, k2⟩ := hj0.ex
  refine ⟨_, fun i => ps_asg (a1 i) (pg_sub (pe_var (i := j) (by rw [f.N i]; exact hN) (hv i) hd hcd) (b1 i) set_list (ha i)) (hs i) (hw i) (h1 i), fun σ F H D r m => a2.2 σ F H r _ fun v F1 H1 s1 r1 hv => ?_⟩
  obtain ⟨p, e1, _, _, _⟩ := r1.lend k1 k2
  refine ⟨.ref p, e1, b2.2 σ F1 H1 r1 _ fun y F2 H2 s2 r2 hy => ?_⟩
  obtain ⟨p', e1', ⟨fp, o, ho, vs, rfl, hr⟩, hm, wr⟩ := r2.lend hj1 hj2
  have ep : p' = p := by
    rw [e1] at e1'
    simpa using e1'.symm
  subst ep
  have sw : Stp [p'] F2 H2 F2 (upd H2 p' (.lst (vs.set n v))) := stp_write (by rw [ho]; simp)
  obtain ⟨r3, s3⟩ := wr F2 (upd H2 p' (.lst (vs.set n v))) (cl (xs.set n a)) sw (same_write r2.sub fp) ⟨fp, _, upd_same, _, rfl, hr.set n (Rep.mono s2.fr hv)⟩
  rw [putC_eq _ hj1] at m
  refine ⟨p', vs, i, n, rfl, hy, ho, by rw [hr.len]; exact hn, m σ F2 _ ?_ r3 (.same (a2.1.trans (b2.1.trans (kd_set _ hj1))))⟩
  exact (s1.trans s2 fun p hp => .inl (by rw [owns_kd a2.1]; exact hp)).trans s3 fun p hp => .inl (by rw [owns_kd a2.1, owns_kd b2.1]; exact hp)
theorem g1_setO {xs : List α} {i : Int} {n : Nat} (f : Fam X S) (j : Nat) (hN : S.N[j]? = some x) (hv : ∀ i, Vis (X i).env.scope x) (h : E X e sl sl1 a) (hi : E X e2 sl1 sl1 i) (hj : Holds sl1 j (cl xs)) (hn : ixN xs.length i = some n)
    (hd : (x == ("__debug__" : Str)) = false := by decide) (hcd : (x == ("__classdict__" : Str)) = false := by decide)
    (ha : ∀ i v, assign (.Subscript (.Name x p1) e2 p2) (X i).env v = (do
      let ov ← holding [v] (eval (.Name x p1) (X i).env)
      let iv ← holding [v, ov] (eval e2 (X i).env)
      standAt p2
      holding [v, ov, iv] (setItem ov iv v)
      release [v, ov, iv] []) := by intro _ _; rfl)
    (hs : ∀ i, swapsWithSole [.Subscript (.Name x p1) e2 p2] e pos.line (X i).env = pure false := by intro _; rfl) (hw : ∀ i, swappedStores [.Subscript (.Name x p1) e2 p2] e (X i).env = pure none := by intro _; rfl)
    (h1 : ∀ i, (assignEach [.Subscript (.Name x p1) e2 p2] (X i).env).map (·.2) = [assign (.Subscript (.Name x p1) e2 p2) (X i).env] := by intro _; rfl) : G1 X (.Assign [.Subscript (.Name x p1) e2 p2] e pos) sl (.next (putC sl1 j (cl (xs.set n a))) : Out ρ) :=
  g1_setOx f j hN hv h hi hj hj hn hd hcd ha hs hw h1
theorem pg_tupK {i : ι} {es : List Expr} {k : Nat} {t : TGs} {n : Nat} (f : Fam X S) (h : PGs (X i) es t) (hn : (assignEach es (X i).env).length = n) (hst : (assignEach es (X i).env).findIdx? (·.1) = none) : PG (X i) (.Tuple es k pos) (gTup S.K n t) := by
  have z := pg_tup (pos := pos) (k := k) (f.calm i) h hn hst
  rw [f.K i] at z
  exact z
/-- x[i], y = divmod(a, b), x a slot's list of ints -/
theorem g1_divS {xs : List Int} {i k d : Int} {n : Nat} (f : Fam X S) (j j2 : Nat) {y : Str} {kk : Nat} {pt pd : Pos} (hN : S.N[j]? = some x) (hN2 : S.N[j2]? = some y) (hv : ∀ i, Vis (X i).env.scope x) (hx : ∀ i, Loc (X i).env.scope y) (hf : ∀ i, (X i).fn y = true ∨ (X i).env.scope.names.lookup y = some .local)
    (hA : A X [e1, e3] sl sl1 [va k, va d]) (hi : E X e2 sl1 sl1 i) (hj : Holds sl1 j (cl xs)) (hn : ixN xs.length i = some n) (hjj : j ≠ j2) (hdv : 0 < d ∧ d < 1073741824) (hl2 : ∃ s, sl1[j2]? = some s ∧ s.lone) (hg : ∀ i, Gl (X i) "divmod") (hm : S.mg "divmod" = none)
    (hd : (x == ("__debug__" : Str)) = false := by decide) (hcd : (x == ("__classdict__" : Str)) = false := by decide)
    (ha : ∀ i v, assign (.Subscript (.Name x p1) e2 p2) (X i).env v = (do
      let ov ← holding [v] (eval (.Name x p1) (X i).env)
      let iv ← holding [v, ov] (eval e2 (X i).env)
      standAt p2
      holding [v, ov, iv] (setItem ov iv v)
      release [v, ov, iv] []) := by intro _ _; rfl)
    (hs : ∀ i, swapsWithSole [.Tuple [.Subscript (.Name x p1) e2 p2, .Name y p3] kk pt] (.Call (.Name "divmod" p4) [e1, e3] [] pd) pos.line (X i).env = pure false := by intro _; rfl) (hw : ∀ i, swappedStores [.Tuple [.Subscript (.Name x p1) e2 p2, .Name y p3] kk pt] (.Call (.Name "divmod" p4) [e1, e3] [] pd) (X i).env = pure none := by intro _; rfl)
    (h1 : ∀ i, (assignEach [.Tuple [.Subscript (.Name x p1) e2 p2, .Name y p3] kk pt] (X i).env).map (·.2) = [assign (.Tuple [.Subscript (.Name x p1) e2 p2, .Name y p3] kk pt) (X i).env] := by intro _; rfl)
    (hn1 : ∀ i, (assignEach [.Subscript (.Name x p1) e2 p2, .Name y p3] (X i).env).length = 2 := by intro _; rfl) (hst : ∀ i, (assignEach [.Subscript (.Name x p1) e2 p2, .Name y p3] (X i).env).findIdx? (·.1) = none := by intro _; rfl)
    (ha1 : ∀ i, (assignEach [.Subscript (.Name x p1) e2 p2, .Name y p3] (X i).env).map (·.2) = assign (.Subscript (.Name x p1) e2 p2) (X i).env :: (assignEach [.Name y p3] (X i).env).map (·.2) := by intro _; rfl) (ha2 : ∀ i, (assignEach [.Name y p3] (X i).env).map (·.2) = assign (.Name y p3) (X i).env :: (assignEach [] (X i).env).map (·.2) := by intro _; rfl)
    (he : ∀ i, starEach [e1, e3] (X i).env = (false, eval e1 (X i).env) :: starEach [e3] (X i).env := by intro _; rfl) (hpl : ∀ i, (backTo pd (starEach [e3] (X i).env)).any (·.1) = false := by intro _; rfl) :
    G1 X (.Assign [.Tuple [.Subscript (.Name x p1) e2 p2, .Name y p3] kk pt] (.Call (.Name "divmod" p4) [e1, e3] [] pd) pos) sl (.next ((putC sl1 j (cl (xs.set n (k / d)))).set j2 (vl (k % d))) : Out ρ) := by
  obtain ⟨ta, a1, a2⟩ := hA
  obtain ⟨ti, b1, b2⟩ := hi
  obtain ⟨s, hj1, hj2⟩ := hj.ex
  refine ⟨_, fun i => ps_asg (pe_callB call_divmod (hg i) (by rw [f.mg i]; exact hm) PyProof.Rows.boot_divmod (a1 i) (by decide) (by decide) (he i) (hpl i))
    (pg_tupK f (pgs_cons (pg_sub (pe_var (i := j) (by rw [f.N i]; exact hN) (hv i) hd hcd) (b1 i) set_list (ha i)) (pgs_cons (pg_name (i := j2) (by rw [f.N i]; exact f.nd) (by rw [f.N i]; exact hN2) (hx i) (hf i)) pgs_nil (ha2 i)) (ha1 i)) (hn1 i) (hst i)) (hs i) (hw i) (h1 i), fun σ F H D r m => a2.2 σ F H r _ fun vs F1 H1 s1 r1 hvs => ?_⟩
  obtain ⟨v, w, rfl, hv', hw'⟩ := args2 hvs
  have ev : v = V.int k := hv'
  have ew : w = V.int d := hw'
  subst ev ew
  refine ⟨k, d, rfl, hdv, fun q hq => ?_⟩
  have rq := r1.new (o := .tup [V.int (k / d), V.int (k % d)]) hq
  have sq : Stp (owns σ sl) F H F1 (upd H1 q (.tup [V.int (k / d), V.int (k % d)])) := s1.trans (stp_new (os := owns σ sl) hq) fun b hb => .inl hb
  refine ⟨q, [V.int (k / d), V.int (k % d)], rfl, ?_, rfl, V.int (k / d), [V.int (k % d)], rfl, ?_⟩
  · exact SqT.of upd_same
  · obtain ⟨p, e1, _, _, _⟩ := rq.lend hj1 hj2
    refine ⟨.ref p, e1, b2.2 σ F1 _ rq _ fun y F2 H2 s2 r2 hy => ?_⟩
    obtain ⟨p', e1', ⟨fp, o, ho, vs, rfl, hr⟩, hm, wr⟩ := r2.lend hj1 hj2
    have ep : p' = p := by
      rw [e1] at e1'
      simpa using e1'.symm
    subst ep
    have sw : Stp [p'] F2 H2 F2 (upd H2 p' (.lst (vs.set n (V.int (k / d))))) := stp_write (by rw [ho]; simp)
    obtain ⟨r3, s3⟩ := wr F2 (upd H2 p' (.lst (vs.set n (V.int (k / d))))) (cl (xs.set n (k / d))) sw (same_write r2.sub fp) ⟨fp, _, upd_same, _, rfl, hr.set n rfl⟩
    rw [putC_eq _ hj1] at m
    refine ⟨p', vs, i, n, rfl, hy, ho, by rw [hr.len]; exact hn, V.int (k % d), [], rfl, rfl, ?_⟩
    have st : Stp (owns σ sl) F H F2 (upd H2 p' (.lst (vs.set n (V.int (k / d))))) := (sq.trans s2 fun p hp => .inl (by rw [owns_kd a2.1]; exact hp)).trans s3 fun p hp => .inl (by rw [owns_kd a2.1]; exact hp)
    obtain ⟨g1, g2, g3⟩ := reg_put (s := vl (k % d)) (o := some (V.int (k % d))) j2 r3 trivial ⟨_, rfl, rfl⟩ (by intro p c h; cases h)
    exact m _ F2 _ st g1 ((OwnOk.same (H := H) (σ := σ) (a2.1.trans (kd_set _ hj1))).trans (F := F2) (F1 := F2) g2 fun p z => st.free z)
/-! ### ifs whose answer is known -/
theorem T.is {c d : Bool} (h : T X e sl sl1 c) (q : c = d) : T X e sl sl1 d := q ▸ h
section
variable {r : Out ρ} {rest A B : List Stmt}
theorem g_yes (hc : T X e sl sl1 true) (h1 : G X A sl1 r) (hn : ∀ s, r ≠ .next s := by intro s h; cases h) : G X (.If e A B pos :: rest) sl r :=
  g_if hc (fun _ => .inr ⟨h1, hn⟩) (fun h => by cases h)
theorem g_no (hc : T X e sl sl1 false) (h2 : G X rest sl1 r) : G X (.If e A [] pos :: rest) sl r :=
  g_if hc (fun h => by cases h) (fun _ => .inl ⟨sl1, g_nil, h2⟩)
theorem g_yesN (hc : T X e sl sl1 true) (h1 : G X A sl1 (.next sl2 : Out ρ)) (h2 : G X rest sl2 r) : G X (.If e A B pos :: rest) sl r :=
  g_if hc (fun _ => .inl ⟨sl2, h1, h2⟩) (fun h => by cases h)
theorem g_noN (hc : T X e sl sl1 false) (h1 : G X B sl1 (.next sl2 : Out ρ)) (h2 : G X rest sl2 r) : G X (.If e A B pos :: rest) sl r :=
  g_if hc (fun h => by cases h) (fun _ => .inl ⟨sl2, h1, h2⟩)
end
end
end Wk

/-! Wk12: methods of a slot's list, join, list(..) of a range, a text, a list; tuple(list); isinstance. -/
namespace Wk
open PySem L2

section
variable {ι : Type} {X : ι → Cx} {S : Sit} {sl sl1 sl2 sl3 : List Slot} {α β τ ρ : Type} [Rep α] [Rep β] [Rep ρ] {a : α} {b : β} {e e1 e2 e3 tg iter elt : Expr} {es : List Expr} {pos p1 p2 p3 p4 cpos apos : Pos} {scope : Scope} {x name : Str} {as : List Arg}
/-- a method with arguments of a slot's list: ys is what it then holds, b what is handed back -/
theorem x_methO {id : String} {r : V → List V → Hp → VK → Prop} {xs0 xs ys : List α} (f : Fam X S) (slot : PySem.Slot "list" name id) (hty : typeOf (.builtin id) = pure (.type "method_descriptor")) (hmr : ∀ i, MtR (X i) id r) (j : Nat) (hN : S.N[j]? = some x) (hv : ∀ i, Vis (X i).env.scope x) (ha : A X (e :: es) sl sl1 as) (hj0 : Holds sl j (cl xs0)) (hj : Holds sl1 j (cl xs))
    (hr : ∀ σ F H H0 vs p ws, Reg F H σ sl1 → Args σ H0 F H vs as → H p = some (.lst ws) → F p = none → Reps F ws xs → ∀ Q : VK, (∀ v ws', Reps F ws' ys → Rep.rep F v b → Q v (upd H p (.lst ws'))) → r (.ref p) vs H Q)
    (hd : (x == ("__debug__" : Str)) = false := by decide) (hcd : (x == ("__classdict__" : Str)) = false := by decide) (hbase : ∀ i, attributeBase (.Name x p1) name (X i).env (eval (.Name x p1) (X i).env) = eval (.Name x p1) (X i).env := by intro _; rfl)
    (hfew : ∀ i, ((backTo cpos (starEach (e :: es) (X i).env)).all (fun x => !x.1) && (backToKw cpos (keywordEach [] (X i).env)).all (fun x => x.1.isSome) && decide ((e :: es).length + ([] : List Keyword).length + (if ([] : List Keyword).isEmpty then 0 else 1) < 30)) = true := by intro _; rfl)
    (hline : (apos.endLine == cpos.line) = true := by rfl) (he : ∀ i, starEach (e :: es) (X i).env = (false, eval e (X i).env) :: starEach es (X i).env := by intro _; rfl) (hpl : ∀ i, (backTo cpos (starEach es (X i).env)).any (·.1) = false := by intro _; rfl) :
    E X (.Call (.Attribute (.Name x p1) name apos) (e :: es) [] cpos) sl (putC sl1 j (cl ys)) b := by
  obtain ⟨ta, a1, a2⟩ := ha
  obtain ⟨s, hj1, hj2⟩ := hj.ex
  obtain ⟨s0, k1, k2⟩ := hj0.ex
  refine ⟨tBM S.K "list" r (tVar j) ta, fun i => ?_, by rw [putC_eq _ hj1]; exact a2.1.trans (kd_set _ hj1), fun σ F H g Q q => ?_⟩
  · have z := pe_bm (cpos := cpos) (apos := apos) PySem.F.plainAttrs_list slot hty (hmr i) (pe_var (pos := p1) (i := j) (by rw [f.N i]; exact hN) (hv i) hd hcd) (a1 i) (hbase i) (hfew i) hline (he i) (hpl i)
    rw [f.K i] at z
    exact z
  · obtain ⟨p, e1, ⟨_, o, ho, ws, rfl, _⟩, _, _⟩ := g.lend k1 k2
    refine ⟨.ref p, e1, .inl ⟨rfl, ws, SqL.of ho⟩, a2.2 σ F H g _ fun vs F1 H1 s1 r1 hvs => ?_⟩
    obtain ⟨p', e1', ⟨fp, o, ho', vs', rfl, hrp⟩, hm, wr⟩ := r1.lend hj1 hj2
    have ep : p' = p := by
      rw [e1] at e1'
      simpa using e1'.symm
    subst ep
    refine hr σ F1 H1 H vs p' vs' r1 hvs ho' fp hrp Q fun v ws' hw hb => ?_
    have sw : Stp [p'] F1 H1 F1 (upd H1 p' (.lst ws')) := stp_write (by rw [ho']; simp)
    obtain ⟨r2, s2⟩ := wr F1 (upd H1 p' (.lst ws')) (cl ys) sw (same_write r1.sub fp) ⟨fp, _, upd_same, _, rfl, hw⟩
    rw [← putC_eq _ hj1] at r2
    exact q v F1 _ (s1.trans s2 fun p hp => .inl (by rw [owns_kd a2.1]; exact hp)) r2 hb
theorem x_methO0 {id : String} {r : V → List V → Hp → VK → Prop} {xs ys : List α} (f : Fam X S) (slot : PySem.Slot "list" name id) (hty : typeOf (.builtin id) = pure (.type "method_descriptor")) (hmr : ∀ i, MtR (X i) id r) (j : Nat) (hN : S.N[j]? = some x) (hv : ∀ i, Vis (X i).env.scope x) (hj : Holds sl j (cl xs))
    (hr : ∀ F H p ws, Same F H → H p = some (.lst ws) → F p = none → Reps F ws xs → ∀ Q : VK, (∀ v ws', Reps F ws' ys → Rep.rep F v b → Q v (upd H p (.lst ws'))) → r (.ref p) [] H Q)
    (hd : (x == ("__debug__" : Str)) = false := by decide) (hcd : (x == ("__classdict__" : Str)) = false := by decide) (hbase : ∀ i, attributeBase (.Name x p1) name (X i).env (eval (.Name x p1) (X i).env) = eval (.Name x p1) (X i).env := by intro _; rfl)
        (hline : (apos.endLine == cpos.line) = true := by rfl) : E X (.Call (.Attribute (.Name x p1) name apos) [] [] cpos) sl (putC sl j (cl ys)) b := by
  obtain ⟨s, hj1, hj2⟩ := hj.ex
  refine ⟨tBM0 S.K "list" r (tVar j), fun i => ?_, by rw [putC_eq _ hj1]; exact kd_set _ hj1, fun σ F H g Q q => ?_⟩
  · have z := pe_bm0 (cpos := cpos) (apos := apos) PySem.F.plainAttrs_list slot hty (hmr i) (pe_var (pos := p1) (i := j) (by rw [f.N i]; exact hN) (hv i) hd hcd) (hbase i) hline
    rw [f.K i] at z
    exact z
  · obtain ⟨p, e1, ⟨fp, o, ho, ws, rfl, hrp⟩, hm, wr⟩ := g.lend hj1 hj2
    refine ⟨.ref p, e1, .inl ⟨rfl, ws, SqL.of ho⟩, ?_⟩
    refine hr F H p ws g.sub ho fp hrp Q fun v ws' hw hb => ?_
    have sw : Stp [p] F H F (upd H p (.lst ws')) := stp_write (by rw [ho]; simp)
    obtain ⟨r2, s2⟩ := wr F (upd H p (.lst ws')) (cl ys) sw (same_write g.sub fp) ⟨fp, _, upd_same, _, rfl, hw⟩
    rw [← putC_eq _ hj1] at r2
    exact q v F _ s2 r2 hb
/-- x.append(e) -/
theorem x_app {xs0 xs : List α} (f : Fam X S) (j : Nat) (hN : S.N[j]? = some x) (hv : ∀ i, Vis (X i).env.scope x) (h : E X e sl sl1 a) (hj0 : Holds sl j (cl xs0)) (hj : Holds sl1 j (cl xs)) (hl : xs.length < 16777216)
    (hd : (x == ("__debug__" : Str)) = false := by decide) (hcd : (x == ("__classdict__" : Str)) = false := by decide) (hbase : ∀ i, attributeBase (.Name x p1) "append" (X i).env (eval (.Name x p1) (X i).env) = eval (.Name x p1) (X i).env := by intro _; rfl)
    (hfew : ∀ i, ((backTo cpos (starEach [e] (X i).env)).all (fun x => !x.1) && (backToKw cpos (keywordEach [] (X i).env)).all (fun x => x.1.isSome) && decide ([e].length + ([] : List Keyword).length + (if ([] : List Keyword).isEmpty then 0 else 1) < 30)) = true := by intro _; rfl)
    (hline : (apos.endLine == cpos.line) = true := by rfl) (he : ∀ i, starEach [e] (X i).env = (false, eval e (X i).env) :: starEach [] (X i).env := by intro _; rfl) :
    E X (.Call (.Attribute (.Name x p1) "append" apos) [e] [] cpos) sl (putC sl1 j (cl (xs ++ [a]))) () :=
  x_methO f PySem.F.slot_list_append PySem.F.type_list_append (fun _ => mt_append) j hN hv (a_v h a_nil he) hj0 hj (fun σ F H H0 vs p ws g hA hp fp hr Q q => by
    obtain ⟨v, rfl, hv⟩ := args1 hA
    exact ⟨p, ws, v, rfl, rfl, hp, by rw [hr.len, sizeLine_eq]; exact hl, q _ _ (hr.app (Reps.one hv)) rfl⟩) hd hcd hbase hfew hline he (fun _ => rfl)
/-- x.pop() -/
theorem x_pop {xs : List α} (f : Fam X S) (j : Nat) (hN : S.N[j]? = some x) (hv : ∀ i, Vis (X i).env.scope x) (hj : Holds sl j (cl xs)) (ha : xs[xs.length - 1]? = some a)
    (hd : (x == ("__debug__" : Str)) = false := by decide) (hcd : (x == ("__classdict__" : Str)) = false := by decide) (hbase : ∀ i, attributeBase (.Name x p1) "pop" (X i).env (eval (.Name x p1) (X i).env) = eval (.Name x p1) (X i).env := by intro _; rfl)
        (hline : (apos.endLine == cpos.line) = true := by rfl) : E X (.Call (.Attribute (.Name x p1) "pop" apos) [] [] cpos) sl (putC sl j (cl xs.dropLast)) a :=
  x_methO0 f PySem.F.slot_list_pop PySem.F.type_list_pop (fun _ => mt_pop) j hN hv hj (fun F H p ws sm hp fp hr Q q => by
    obtain ⟨v, h1, h2⟩ := hr.get ha
    refine ⟨p, ws, v, rfl, rfl, hp, by rw [hr.len]; exact h1, q _ _ ?_ h2⟩
    rw [List.dropLast_eq_take, List.dropLast_eq_take, hr.len]
    exact hr.take _) hd hcd hbase hline
/-- x.pop(i) -/
theorem x_popAt {xs0 xs : List α} {k : Int} {n : Nat} (f : Fam X S) (j : Nat) (hN : S.N[j]? = some x) (hv : ∀ i, Vis (X i).env.scope x) (h : E X e sl sl1 k) (hj0 : Holds sl j (cl xs0)) (hj : Holds sl1 j (cl xs)) (hk : -(2 ^ 63) ≤ k ∧ k < 2 ^ 63) (hn : seqIndex? k xs.length = some n) (ha : xs[n]? = some a)
    (hd : (x == ("__debug__" : Str)) = false := by decide) (hcd : (x == ("__classdict__" : Str)) = false := by decide) (hbase : ∀ i, attributeBase (.Name x p1) "pop" (X i).env (eval (.Name x p1) (X i).env) = eval (.Name x p1) (X i).env := by intro _; rfl)
    (hfew : ∀ i, ((backTo cpos (starEach [e] (X i).env)).all (fun x => !x.1) && (backToKw cpos (keywordEach [] (X i).env)).all (fun x => x.1.isSome) && decide ([e].length + ([] : List Keyword).length + (if ([] : List Keyword).isEmpty then 0 else 1) < 30)) = true := by intro _; rfl)
    (hline : (apos.endLine == cpos.line) = true := by rfl) (he : ∀ i, starEach [e] (X i).env = (false, eval e (X i).env) :: starEach [] (X i).env := by intro _; rfl) :
    E X (.Call (.Attribute (.Name x p1) "pop" apos) [e] [] cpos) sl (putC sl1 j (cl (xs.eraseIdx n))) a :=
  x_methO f PySem.F.slot_list_pop PySem.F.type_list_pop (fun _ => mt_popAt) j hN hv (a_v h a_nil he) hj0 hj (fun σ F H H0 vs p ws g hA hp fp hr Q q => by
    obtain ⟨v, rfl, hv⟩ := args1 hA
    obtain ⟨w, h1, h2⟩ := hr.get ha
    exact ⟨p, ws, k, n, w, rfl, by rw [show v = _ from hv]; rfl, hp, hk.1, hk.2, by rw [hr.len]; exact hn, h1, q _ _ (hr.erase n) h2⟩) hd hcd hbase hfew hline he (fun _ => rfl)

/-! ### join -/
theorem txJoin_nil (ys : List Txt) : PySem.Txt.join (tx []) (ys.map tx) = tx ys.flatten := by
  rw [TL.join_eq]
  have aux : ∀ ys : List Txt, Str.join (tx []) (ys.map tx) = tx ys.flatten := by
    intro ys
    induction ys with
    | nil => rfl
    | cons y ys ih =>
      cases ys with
      | nil => show tx y = tx (y ++ []) ; rw [List.append_nil]
      | cons z zs =>
        show tx y ++ tx [] ++ Str.join (tx []) ((z :: zs).map tx) = tx (y ++ (z :: zs).flatten)
        rw [ih, tx_app, tx_app, List.append_nil]
  exact aux ys
/-- ''.join(list of texts) -/
theorem x_join0 {ys : List Txt} (f : Fam X S) (ho : E X e1 sl sl1 ([] : Txt)) (h : E X e sl1 sl2 ys) (hl : (ys.map List.length).sum ≤ 16777216) (hs : ∀ i, starEach [e] (X i).env = [(false, eval e (X i).env)] := by intro _; rfl)
    (hbase : ∀ i, attributeBase e1 "join" (X i).env (eval e1 (X i).env) = eval e1 (X i).env := by intro _; rfl) (hline : (apos.endLine == pos.line) = true := by rfl) : E X (.Call (.Attribute e1 "join" apos) [e] [] pos) sl sl2 (ys.flatten : Txt) := by
  obtain ⟨to, o1, o2⟩ := ho
  obtain ⟨te, a1, a2⟩ := h
  refine ⟨tM1 (fun x xs H Q => ∃ a p, ∃ ys : List Str, x = .str a ∧ xs = [.ref p] ∧ (SqL S.K H p (ys.map V.str) ∨ SqT S.K H p (ys.map V.str)) ∧ (ys.map (·.length)).sum + ys.length * a.length ≤ 16777216 ∧ Q (.str (PySem.Txt.join a ys)) H) to te, fun i => ?_, o2.1.trans a2.1, fun σ F H r Q q => ?_⟩
  · have z := pe_join (o1 i) (a1 i) (hs i) (hbase i) hline
    rw [f.K i] at z
    exact z
  · refine o2.2 σ F H r _ fun v F1 H1 s1 r1 hv => ⟨⟨_, hv⟩, a2.2 σ F1 H1 r1 _ fun w F2 H2 s2 r2 hw => ?_⟩
    obtain ⟨p, vs, rfl, hp, hr⟩ := hw
    rw [Reps.flat] at hr
    subst hr
    refine ⟨tx [], p, ys.map tx, hv, rfl, .inl ?_, ?_, ?_⟩
    · have e : (ys.map tx).map V.str = ys.map Flat.toV := by rw [List.map_map]; rfl
      rw [e]
      exact SqL.of (r2.sub _ _ hp)
    · have e : (ys.map tx).map (·.length) = ys.map List.length := by rw [List.map_map]; exact List.map_congr_left fun l _ => tx_len l
      rw [e, tx_len]
      simpa using hl
    · rw [txJoin_nil]
      exact q _ F2 H2 (s1.trans s2 fun p hp => .inl (by rw [owns_kd o2.1]; exact hp)) r2 rfl

/-! ### list(..) -/
/-- list(range(n)) -/
theorem x_listRg1 {n : Int} (f : Fam X S) (h : E X e sl sl1 n) (hn : 0 ≤ n ∧ n ≤ 16777216) (hg : ∀ i, Gl (X i) "list") (hm : S.mg "list" = none) (hg2 : ∀ i, Gl (X i) "range") (hm2 : S.mg "range" = none)
    (na : ∀ i, starEach [e] (X i).env = (false, eval e (X i).env) :: starEach [] (X i).env := by intro _; rfl) (nb : ∀ i, starEach [.Call (.Name "range" p2) [e] [] p3] (X i).env = (false, eval (.Call (.Name "range" p2) [e] [] p3) (X i).env) :: starEach [] (X i).env := by intro _; rfl) :
    EN X (.Call (.Name "list" p1) [.Call (.Name "range" p2) [e] [] p3] [] pos) sl sl1 (cl ((List.range n.toNat).map fun k : Nat => (k : Int))) := by
  obtain ⟨te, a1, a2⟩ := h
  refine ⟨_, fun i => pe_listRg (f.calm i) (hg i) (by rw [f.mg i]; exact hm) (prg_1 (hg2 i) (by rw [f.mg i]; exact hm2) (a1 i) (na i)) (nb i), a2.1, fun σ F H r Q q => a2.2 σ F H r _ fun v F1 H1 s1 r1 hv => ⟨n, hv, RgOk.of_le (Int.le_refl 0) hn.2 (by decide) hn.1, fun p hp => new_end (sl := sl) q s1 r1 ⟨_, rfl, ?_⟩ p hp⟩⟩
  rw [Reps.flat]
  unfold rgV
  rw [Int.sub_zero, List.map_map]
  exact List.map_congr_left fun k _ => by
    show V.int (0 + (k : Int)) = V.int (k : Int)
    rw [Int.zero_add]
/-- list(text) -/
theorem call_list_txt (hc : ∀ i, (X i).calm = true) (i : ι) : CallR (X i) (.type "list") (fun xs H Q => ∃ z : Str, xs = [.str z] ∧ z.length ≤ 16777216 ∧ ∀ p, H p = none → Q (.ref p) (upd H p (.lst (z.cps.toList.map fun c => V.str ⟨#[c]⟩)))) := by
  intro pins s σ H xs us Q I r h
  obtain ⟨z, rfl, hz, q⟩ := h
  obtain ⟨u, rfl, hu⟩ := Vals.one r
  obtain ⟨t, rfl⟩ := hu
  refine PySem.call_list_str (I.ok.hd (hc i)) z t (fun h' tk acc c hk hn hacc => ?_) (by rw [sizeLine_eq]; exact hz)
  have hv : Vals (z.cps.toList.map fun c => V.str ⟨#[c]⟩) acc.toList := by
    have aux : ∀ (cs : List Nat) (us : List Value) (k : Nat), us.length = cs.length → (∀ (j : Nat) (v : Value), us[j]? = some v → ∃ (c : Nat) (u : Tok), cs[j]? = some c ∧ v = Value.str ⟨#[c]⟩ u) → Vals (cs.map fun c => V.str ⟨#[c]⟩) us := by
      intro cs
      induction cs with
      | nil => intro us k hl _; cases us with
        | nil => exact .nil
        | cons _ _ => simp at hl
      | cons c cs ih => intro us k hl hh; cases us with
        | nil => simp at hl
        | cons u us =>
          obtain ⟨c', u', h1, h2⟩ := hh 0 u (by simp)
          have e : c' = c := by simpa using h1.symm
          subst e
          exact .cons ⟨u', h2⟩ (ih us 0 (by simpa using hl) fun j v hj => by
            obtain ⟨c2, u2, k1, k2⟩ := hh (j + 1) v (by simpa using hj)
            exact ⟨c2, u2, by simpa using k1, k2⟩)
    refine aux _ _ 0 (by rw [Array.length_toList, hacc.1, Array.length_toList]) fun j v hj => ?_
    rw [Array.getElem?_toList] at hj
    obtain ⟨c, u, h1, h2⟩ := hacc.2 j v hj
    exact ⟨c, u, by rw [Array.getElem?_toList]; exact h1, h2⟩
  have hl : (z.cps.toList.map fun c => V.str ⟨#[c]⟩).length ≤ sizeLine := by
    rw [List.length_map, Array.length_toList, sizeLine_eq]
    exact hz
  exact ⟨.ref _, upd H s.heap.objs.size (.lst _), I.laid (t' := tk) hk (Nat.le_refl _) ⟨hl, acc.toList, c, hv, by simpa using hn⟩, rfl, q _ (I.hok.fresh (Nat.le_refl _))⟩
theorem x_listS {l : Txt} (f : Fam X S) (h : E X e sl sl1 l) (hl : l.length ≤ 16777216) (hg : ∀ i, Gl (X i) "list") (hm : S.mg "list" = none) (he : ∀ i, starEach [e] (X i).env = (false, eval e (X i).env) :: starEach [] (X i).env := by intro _; rfl) : EN X (.Call (.Name "list" p1) [e] [] pos) sl sl1 (cl (l.map fun c => ([c] : Txt))) :=
  x_callTyN f (call_list_txt f.calm) (a_v h a_nil he) (fun σ F H H0 vs g hA Q q => by
    obtain ⟨v, rfl, hv⟩ := args1 hA
    refine ⟨tx l, by rw [show v = _ from hv]; rfl, by rw [tx_len]; exact hl, fun p hp => q _ ⟨_, rfl, ?_⟩ p hp⟩
    rw [Reps.flat, tx_cps, List.map_map]
    rfl) hg hm PyProof.Rows.boot_list (he := he)
/-- list(xs) -/
theorem x_listL {xs : List α} (f : Fam X S) (h : E X e sl sl1 xs) (hg : ∀ i, Gl (X i) "list") (hm : S.mg "list" = none) (he : ∀ i, starEach [e] (X i).env = (false, eval e (X i).env) :: starEach [] (X i).env := by intro _; rfl) : EN X (.Call (.Name "list" p1) [e] [] pos) sl sl1 (cl xs) :=
  x_callTyN f (r := fun xs H Q => ∃ p ys, xs = [.ref p] ∧ (SqL S.K H p ys ∨ SqT S.K H p ys) ∧ ∀ l, H l = none → Q (.ref l) (upd H l (.lst ys))) (fun i => by
    have z := call_list_of (X := X i)
    rw [f.K i] at z
    exact z) (a_v h a_nil he) (fun σ F H H0 vs g hA Q q => by
    obtain ⟨v, rfl, p, ws, rfl, hp, hr⟩ := args1 hA
    exact ⟨p, ws, rfl, .inl (SqL.of (g.sub _ _ hp)), fun p3 h3 => q _ ⟨_, rfl, hr⟩ p3 h3⟩) hg hm PyProof.Rows.boot_list (he := he)
end
end Wk

/-! Wk13: the script; a new object lent; isinstance. -/
namespace Wk
open PySem L2

/-- the script's list of ints, wherever it stands -/
structure Scr (K : PySem.W.Frag) where
  ns : List Int
instance scrRep {K : PySem.W.Frag} : Rep (Scr K) where
  rep := fun F v s => ∃ a, v = .ref a ∧ SqL K F a (s.ns.map V.int)
  mono := fun e ⟨a, h1, h2⟩ => ⟨a, h1, Same.seq e h2⟩

section
variable {ι : Type} {X : ι → Cx} {S : Sit} {sl sl1 sl2 sl3 : List Slot} {α β τ ρ : Type} [Rep α] [Rep β] [Rep ρ] {a : α} {b : β} {e e1 e2 e3 tg iter elt : Expr} {es : List Expr} {pos p1 p2 p3 p4 cpos apos : Pos} {scope : Scope} {x name : Str} {as : List Arg}
theorem x_lenScr {s : Scr S.K} (f : Fam X S) (h : E X e sl sl1 s) (hg : ∀ i, Gl (X i) "len") (hm : S.mg "len" = none) (he : ∀ i, starEach (e :: []) (X i).env = (false, eval e (X i).env) :: starEach [] (X i).env := by intro _; rfl) : E X (.Call (.Name "len" p1) [e] [] pos) sl sl1 (s.ns.length : Int) :=
  x_callB f (len_seq f) (a_v h a_nil he) (fun σ F H H0 vs g hA Q q => by
    obtain ⟨v, rfl, p, rfl, hp⟩ := args1 hA
    exact ⟨p, _, rfl, .inl (Same.seq g.sub hp), q _ (by rw [List.length_map]; rfl)⟩) hg hm PySem.boot_len (he := he)
theorem x_ixScr {s : Scr S.K} {i n : Int} (f : Fam X S) (ha : E X e1 sl sl1 s) (hb : E X e2 sl1 sl2 i) (hi : L2.atI s.ns i = some n) (hs : PlainIx e2 := by intro _ _; rfl) : E X (.Subscript e1 e2 pos) sl sl2 n :=
  x_ix (ixL f) ha hb hs fun F H x y sm ⟨p, e, h1⟩ hy Q q => by
    refine ⟨p, _, i, V.int n, e, hy, Same.seq sm h1, ?_, q _ rfl⟩
    unfold L2.atI at hi ⊢
    rw [List.length_map]
    cases z : ixN s.ns.length i with
    | none => rw [z] at hi; cases hi
    | some j =>
      rw [z] at hi
      have hi' : s.ns[j]? = some n := hi
      show (s.ns.map V.int)[j]? = some (V.int n)
      rw [List.getElem?_map, hi']
      rfl
theorem x_slScr {s : Scr S.K} {lo hi : Option Expr} {ol oh : Option Int} (f : Fam X S) (h : E X e sl sl1 s) (h1 : O X lo sl1 sl2 ol) (h2 : O X hi sl2 sl3 oh) : EN X (.Subscript e (.Slice lo hi none p2) pos) sl sl3 (cl (cutL s.ns ol oh)) := by
  obtain ⟨t, a1, a2⟩ := h
  obtain ⟨u, b1, b2, b3⟩ := h1
  obtain ⟨w, c1, c2, c3⟩ := h2
  refine ⟨_, fun i => pe_slice (slL f i) (a1 i) (b1 i) (c1 i), a2.1.trans (b2.trans c2), fun σ F H r Q q => a2.2 σ F H r _ fun v F1 H1 s1 r1 hv => b3 σ F1 H1 r1 _ fun F2 H2 s2 r2 => c3 σ F2 H2 r2 _ fun F3 H3 s3 r3 => ?_⟩
  have k1 : owns σ sl = owns σ sl1 := owns_kd a2.1
  have k2 : owns σ sl1 = owns σ sl2 := owns_kd b2
  obtain ⟨p, rfl, hp⟩ := Rep.mono (s2.fr.trans s3.fr) hv
  refine ⟨p, _, rfl, Same.seq r3.sub hp, fun p3 h3 => new_end (sl := sl) q ((s1.trans s2 fun p hp => .inl (by rw [k1]; exact hp)).trans s3 fun p hp => .inl (by rw [k1, k2]; exact hp)) r3 ⟨_, rfl, ?_⟩ p3 h3⟩
  rw [Reps.flat]
  unfold cutV cutL
  rw [List.length_map, List.map_take, List.map_drop]
  rfl

/-- what is not lent stands -/
theorem Reg.side {F H F' H' : Hp} {σ : L2.St} {p : Addr} (r : Reg F H σ sl) (s : Stp [p] F H F' H') (np : p ∉ owns σ sl) (e : Same F' H') : Reg F' H' σ sl := by
  refine ⟨e, r.nd, Slots.step s.fr r.ok fun q hq => ?_⟩
  obtain ⟨h1, h2⟩ := Slots.owned r.ok q hq
  have nq : q ∉ [p] := fun z => np (by rw [List.mem_singleton] at z; rw [← z]; exact hq)
  cases z : H q with
  | none => exact absurd z h2
  | some w =>
    have hk := hold_step (c := ⟨fun _ _ => True, fun _ _ => trivial⟩) (p := q) ⟨h1, w, z, trivial⟩ s nq
    exact ⟨hk.1, s.keep q w z nq⟩
/-- f(new object): it is lent and dropped -/
theorem x_callNew {q : Pr} {k : Nat} {ps : List Str} {c : Ct} (fm : Fam X S) (F : S.Fn k x ps q) (a : Addr → q.A) (h : EN X e sl sl1 c) (hi : ∀ p, q.ins (a p) = [.par p c]) (hpre : ∀ p, q.pre (a p)) (hr : ∀ p, q.res (a p) = rv b) (hk : k ≤ S.k) (hg : ∀ i, Gl (X i) x)
    (hdb : (x == ("__debug__" : Str)) = false := by decide) (he : ∀ i, starEach (e :: []) (X i).env = (false, eval e (X i).env) :: starEach [] (X i).env := by intro _; rfl) (hpl : ∀ i, (backTo pos (starEach [] (X i).env)).any (·.1) = false := by intro _; rfl) :
    E X (.Call (.Name x p1) [e] [] pos) sl sl1 b := by
  obtain ⟨te, h1, h2⟩ := h
  refine ⟨_, fun i => pe_fn fm F hk hg (fun i => pa_cons (h1 i) pa_nil (he i)) hdb he hpl i, h2.1, fun σ F H r Q qq => h2.2 σ F H r _ fun p F1 H1 s1 r1 hp hc => ?_⟩
  refine ⟨a p, F1, ?_, hpre p, fun v F2 H2 s2 sm ho hrv => ?_⟩
  · rw [hi p]
    exact ⟨r1.sub, by show [p].Nodup; simp, ⟨rfl, hc⟩, trivial⟩
  · rw [hi p] at s2
    have s2' : Stp [p] F1 H1 F2 H2 := s2
    rw [hr p] at hrv
    have np : p ∉ owns σ sl1 := by rw [← owns_kd h2.1]; exact fresh_owns r hp
    exact qq v F2 H2 (s1.trans s2' fun w hw => by rw [List.mem_singleton] at hw; rw [hw]; exact .inr hp) (r1.side s2' np sm) hrv
/-- a built-in class's name, as an argument of isinstance -/
theorem x_isStr {l : Txt} (f : Fam X S) (h : E X e sl sl1 l) (hg : ∀ i, Gl (X i) "isinstance") (hm : S.mg "isinstance" = none) (hg2 : ∀ i, Gl (X i) "str") (hm2 : S.mg "str" = none) (he : ∀ i, starEach [e, .Name "str" p2] (X i).env = (false, eval e (X i).env) :: starEach [.Name "str" p2] (X i).env := by intro _; rfl) (hpl : ∀ i, (backTo pos (starEach [.Name "str" p2] (X i).env)).any (·.1) = false := by intro _; rfl) :
    E X (.Call (.Name "isinstance" p1) [e, .Name "str" p2] [] pos) sl sl1 true := by
  obtain ⟨te, a1, a2⟩ := h
  refine ⟨tCB (rIsi S.K) (tCons te (tCons (tC (.ty "str")) tNil)), fun i => ?_, a2.1, fun σ F H r Q q => a2.2 σ F H r _ fun v F1 H1 s1 r1 hv => ?_⟩
  · have z := pe_callB (p := p1) (pos := pos) (call_isi (X := X i)) (hg i) (by rw [f.mg i]; exact hm) PyProof.Rows.boot_isinstance (pa_cons (a1 i) (pa_cons (pe_bltn (pos := p2) (v := .ty "str") (hg2 i) (by rw [f.mg i]; exact hm2) PyProof.Rows.boot_str rfl) pa_nil rfl) (he i)) (by decide) (by decide) (he i) (hpl i)
    rw [f.K i] at z
    exact z
  · refine ⟨v, .ty "str", .type "str", .type "str", true, rfl, .ty "str", ?_, kit_ty (by decide +kernel), q _ F1 H1 s1 r1 rfl⟩
    rw [show v = V.str (tx l) from hv]
    exact .base (.str _)
/-- isinstance of an int -/
theorem x_isInt {n : Int} {ty : String} {ans : Bool} (f : Fam X S) (h : E X e sl sl1 n) (hk : kitB "int" ty = some ans) (hb : bootBuiltins (Str.ofString ty) = some (.type ty)) (hg : ∀ i, Gl (X i) "isinstance") (hm : S.mg "isinstance" = none) (hg2 : ∀ i, Gl (X i) (Str.ofString ty)) (hm2 : S.mg (Str.ofString ty) = none) (he : ∀ i, starEach [e, .Name (Str.ofString ty) p2] (X i).env = (false, eval e (X i).env) :: starEach [.Name (Str.ofString ty) p2] (X i).env := by intro _; rfl) (hpl : ∀ i, (backTo pos (starEach [.Name (Str.ofString ty) p2] (X i).env)).any (·.1) = false := by intro _; rfl)
    (hn : Str.ofString ty ≠ "__name__" := by decide) (hd : (Str.ofString ty == ("__debug__" : Str)) = false := by decide) :
    E X (.Call (.Name "isinstance" p1) [e, .Name (Str.ofString ty) p2] [] pos) sl sl1 ans := by
  obtain ⟨te, a1, a2⟩ := h
  refine ⟨tCB (rIsi S.K) (tCons te (tCons (tC (.ty ty)) tNil)), fun i => ?_, a2.1, fun σ F H r Q q => a2.2 σ F H r _ fun v F1 H1 s1 r1 hv => ?_⟩
  · have z := pe_callB (p := p1) (pos := pos) (call_isi (X := X i)) (hg i) (by rw [f.mg i]; exact hm) PyProof.Rows.boot_isinstance (pa_cons (a1 i) (pa_cons (pe_bltn (pos := p2) (v := .ty ty) (hg2 i) (by rw [f.mg i]; exact hm2) hb rfl hn hd) pa_nil rfl) (he i)) (by decide) (by decide) (he i) (hpl i)
    rw [f.K i] at z
    exact z
  · refine ⟨v, .ty ty, .type "int", .type ty, ans, rfl, .ty ty, ?_, kit_ty hk, q _ F1 H1 s1 r1 rfl⟩
    rw [show v = V.int n from hv]
    exact .base (.int _)
/-! ### comprehensions that change nothing -/
theorem lcC_pure {p : α → Bool} {g : α → β} : ∀ (xs : List α), lcC (fun (_ : Unit) x => ((), if p x = true then some (g x) else none)) () xs = ((), (xs.filter p).map g)
  | [] => rfl
  | x :: xs => by
    have ih := lcC_pure (p := p) (g := g) xs
    show ((lcC _ () xs).1, (if p x = true then some (g x) else none).toList ++ (lcC _ () xs).2) = _
    rw [ih, List.filter_cons]
    by_cases h : p x = true
    · rw [if_pos h, if_pos h]; rfl
    · rw [if_neg h, if_neg h]; rfl
theorem x_lcP {ifs : List Expr} (f : Fam X S) {xs : List α} {own : List (Str × Nat)} {js : List Nat} (sb : α → List Slot) (p : α → Bool) (g : α → β) (hsrc : Src X tg iter sl sl1 xs) (hblk : ∀ i, BlkOk (X i).N (X i).env.scope scope own) (hg : ∀ x, Tg (blkF X scope) tg js x sl1 (sb x)) (hjs : ∀ j ∈ js, j ∈ own.map (·.2))
    (hno : ∀ j ∈ own.map (·.2), ∀ s, sl1[j]? = some s → s = Slot.no) (hlen : xs.length ≤ 16777216) (hb : ∀ (i : Nat) (x : α), xs[i]? = some x → ∃ s1, TIf (blkF X scope) ifs (sb x) s1 (p x) ∧ (p x = true → ∃ s2, E (blkF X scope) elt s1 s2 (g x) ∧ Wks s2 sl1) ∧ (p x = false → Wks s1 sl1)) :
    EN X (.ListComp elt [⟨tg, iter, ifs, 0⟩] scope pos) sl sl1 (cl ((xs.filter p).map g)) := by
  have k := x_lcS (pos := pos) f (fun _ : Unit => sl1) () (fun x _ => sb x) (fun (_ : Unit) x => ((), if p x = true then some (g x) else none)) hsrc hblk (Wks.refl _) rfl (fun x _ => hg x) hjs (fun _ => hno) (fun _ => rfl) hlen (fun i t x hx _ => by
    obtain ⟨s1, h1, h2, h3⟩ := hb i x hx
    show LTurn (blkF X scope) ifs elt (fun _ : Unit => sl1) (sb x) ((), if p x = true then some (g x) else none)
    by_cases h : p x = true
    · rw [if_pos h]
      obtain ⟨s2, k1, k2⟩ := h2 h
      rw [h] at h1
      exact ⟨s1, s2, h1, k1, k2⟩
    · rw [if_neg h]
      rw [Bool.eq_false_iff.mpr h] at h1
      exact ⟨s1, h1, h3 (Bool.eq_false_iff.mpr h)⟩)
  rw [lcC_pure] at k
  exact k
/-- [elt for tg in iter] -/
theorem x_lcM (f : Fam X S) {xs : List α} {own : List (Str × Nat)} {js : List Nat} (sb : α → List Slot) (g : α → β) (hsrc : Src X tg iter sl sl1 xs) (hblk : ∀ i, BlkOk (X i).N (X i).env.scope scope own) (hg : ∀ x, Tg (blkF X scope) tg js x sl1 (sb x)) (hjs : ∀ j ∈ js, j ∈ own.map (·.2))
    (hno : ∀ j ∈ own.map (·.2), ∀ s, sl1[j]? = some s → s = Slot.no) (hlen : xs.length ≤ 16777216) (hb : ∀ (i : Nat) (x : α), xs[i]? = some x → ∃ s2, E (blkF X scope) elt (sb x) s2 (g x) ∧ Wks s2 sl1) :
    EN X (.ListComp elt [⟨tg, iter, [], 0⟩] scope pos) sl sl1 (cl (xs.map g)) := by
  have k := x_lcP (pos := pos) (ifs := []) f sb (fun _ => true) g hsrc hblk hg hjs hno hlen (fun i x hx => ⟨sb x, ti_nil, fun _ => hb i x hx, fun h => by cases h⟩)
  rw [List.filter_eq_self.mpr (fun _ _ => rfl)] at k
  exact k
/-- a comprehension's own name: its slot holds the item -/
theorem sb_wk {j : Nat} {s : Slot} (h : sl[j]? = some .no) : Wks (sl.set j s) sl := by
  induction sl generalizing j with
  | nil => simp at h
  | cons t sl ih =>
    cases j with
    | zero =>
      simp at h
      subst h
      exact ⟨.inr rfl, Wks.refl _⟩
    | succ j => exact ⟨.inl rfl, ih (by simpa using h)⟩
/-- the same with an ordinary name of the block -/
theorem x_lcN {ifs : List Expr} {y : Str} (j : Nat) (f : Fam X S) {xs : List α} (p : α → Bool) (g : α → β) (hsrc : Src X (.Name y p1) iter sl sl1 xs) (hblk : ∀ i, BlkOk (X i).N (X i).env.scope scope [(y, j)]) (hN : S.N[j]? = some y) (hx : ∀ i, Loc (blkF X scope i).env.scope y) (hf : ∀ i, (blkF X scope i).fn y = true ∨ (blkF X scope i).env.scope.names.lookup y = some .local)
    (hno : sl1[j]? = some .no) (hlen : xs.length ≤ 16777216) (hb : ∀ x, x ∈ xs → TIf (blkF X scope) ifs (sl1.set j (vl x)) (sl1.set j (vl x)) (p x) ∧ (p x = true → E (blkF X scope) elt (sl1.set j (vl x)) (sl1.set j (vl x)) (g x))) :
    EN X (.ListComp elt [⟨.Name y p1, iter, ifs, 0⟩] scope pos) sl sl1 (cl ((xs.filter p).map g)) :=
  x_lcP f (js := [j]) (fun x => sl1.set j (vl x)) p g hsrc hblk (fun x => tg_name (f.blk scope) j hN hx hf) (fun k hk => hk) (fun k hk s hs => by
    have e : k = j := by simpa using hk
    rw [e, hno] at hs
    exact (Option.some.inj hs).symm) hlen (fun i x hx => ⟨_, (hb x (List.mem_of_getElem? hx)).1, fun h => ⟨_, (hb x (List.mem_of_getElem? hx)).2 h, sb_wk hno⟩, fun _ => sb_wk hno⟩)
theorem x_lcNM {y : Str} (j : Nat) (f : Fam X S) {xs : List α} (g : α → β) (hsrc : Src X (.Name y p1) iter sl sl1 xs) (hblk : ∀ i, BlkOk (X i).N (X i).env.scope scope [(y, j)]) (hN : S.N[j]? = some y) (hx : ∀ i, Loc (blkF X scope i).env.scope y) (hf : ∀ i, (blkF X scope i).fn y = true ∨ (blkF X scope i).env.scope.names.lookup y = some .local)
    (hno : sl1[j]? = some .no) (hlen : xs.length ≤ 16777216) (hb : ∀ x, x ∈ xs → E (blkF X scope) elt (sl1.set j (vl x)) (sl1.set j (vl x)) (g x)) :
    EN X (.ListComp elt [⟨.Name y p1, iter, [], 0⟩] scope pos) sl sl1 (cl (xs.map g)) := by
  have k := x_lcN (pos := pos) (ifs := []) j f (fun _ => true) g hsrc hblk hN hx hf hno hlen (fun x hx => ⟨ti_nil, fun _ => hb x hx⟩)
  rw [List.filter_eq_self.mpr (fun _ _ => rfl)] at k
  exact k
end
end Wk

/-! Wk14: the set of a text's signs, sorted. -/
namespace Wk
open PySem L2

/-! ### a set of texts: its object -/
def txtOf (e : Int × Value) : Str := match e.2 with | .str k _ => k | _ => Str.empty
def TxtE (w : World) (e : Int × Value) : Prop := ∃ k u, e.2 = Value.str k u ∧ e.1 = hashStr w k
structure BagAt (w : World) (m : Heap) (at0 : Addr) (ks : List Str) (ob : Obj) (ens : Array (Int × Value)) (epo : Nat) (tab : SetTable) : Prop where
  got : m.get? at0 = some ob
  exact1 : ob.ExactSet
  dat : ob.data = .set ens epo tab
  ent : ∀ e ∈ ens.toList, TxtE w e
  all : (ens.toList.map txtOf).Perm ks
  nodup : ks.Nodup
  few : ens.size < scanBound
  fit : tab.fits ens.size = true
  ris : Ris tab.place.toList
  led : w.params.followText "set-order" = true ∨ tab.led = true
def Bag (w : World) (m : Heap) (at0 : Addr) (ks : List Str) : Prop := ∃ ob ens epo tab, BagAt w m at0 ks ob ens epo tab

section
variable {P : Program} {w : World} {A : Around} {B : Value → Shared → Prop} {z : Shared} {at0 : Addr} {ks : List Str}

theorem Bag.at {m m' : Heap} (b : Bag w m at0 ks) (k : ∀ o, m.get? at0 = some o → m'.get? at0 = some o) : Bag w m' at0 ks := by
  obtain ⟨ob, ens, epo, tab, b⟩ := b
  exact ⟨ob, ens, epo, tab, { b with got := k ob b.got }⟩
theorem ents_of {l : List (Int × Value)} (h : ∀ e ∈ l, TxtE w e) : ElemsOf (PySem.strKind P w) l := fun e he => by
  obtain ⟨k, u, h1, h2⟩ := h e he
  refine ⟨⟨k, by rw [h1]; exact PySem.strKind_is P w k u, h2⟩, ?_⟩
  rw [h1]
  rfl
theorem ent_is {e : Int × Value} (h : TxtE w e) (k : Str) : (PySem.strKind P w).is k e.2 = true ↔ txtOf e = k := by
  obtain ⟨k0, u, h1, _⟩ := h
  unfold txtOf
  rw [h1]
  show Value.isStrOf k (.str k0 u) = true ↔ k0 = k
  simp [Value.isStrOf]
theorem ents_mem {l : List (Int × Value)} (h : ∀ e ∈ l, TxtE w e) (k : Str) : k ∈ l.map txtOf ↔ ∃ e ∈ l, (PySem.strKind P w).is k e.2 = true := by
  rw [List.mem_map]
  exact ⟨fun ⟨e, he, q⟩ => ⟨e, he, (ent_is (h e he) k).2 q⟩, fun ⟨e, he, q⟩ => ⟨e, he, (ent_is (h e he) k).1 q⟩⟩

theorem bag_tail {gv : Bool → Sem Unit} (hgv : ∀ (b : Bool) (z1 : Shared) (W : Unit → Shared → Prop), W () z1 → wpAny (model P w) A (gv b) W B z1)
    {ob : Obj} {ens : Array (Int × Value)} {epo : Nat} {tab : SetTable} (ho : z.heap.get? at0 = some ob) (hx : ob.ExactSet) (hd : ob.data = .set ens epo tab)
    {ens1 : Array (Int × Value)} {tab1 : SetTable} (he : ∀ e ∈ ens1.toList, TxtE w e) (hp : (ens1.toList.map txtOf).Perm ks) (hn : ks.Nodup)
    (hb : ens1.size < scanBound) (hf : tab1.fits ens1.size = true) (hr : Ris tab1.place.toList) (hl : w.params.followText "set-order" = true ∨ tab1.led = true) {was : Bool} {W : Option Bool → Shared → Prop}
    (hW : ∀ m', Heap.SameBut at0 z.heap m' → Bag w m' at0 ks → W (some true) { z with heap := m' }) :
    wpAny (model P w) A (do
        storeSet at0 ens1 tab1
        if (!was && tab1.tooFull) = true then do
            gv (relayAll tab1 ens1 (SetTable.grown ens1.size)).2.2
            storeSet at0 (relayAll tab1 ens1 (SetTable.grown ens1.size)).1 (relayAll tab1 ens1 (SetTable.grown ens1.size)).2.1
            pure (some true)
          else pure (some true)) W B z := by
  refine wpAny_bind (wpAny_storeSet_of ho hd ?_ (fits_of_scanBound hb))
  have k1 := store_at (es' := ens1) (t' := tab1) ho hd
  have k2 := Heap.SameBut.update z.heap at0 (Obj.putSet ens1 tab1)
  split
  · have p1 := relayAll_perm tab1 ens1 (SetTable.grown ens1.size)
    have p2 := relayAll_fits tab1 ens1 (SetTable.grown ens1.size)
    have p3 := relayAll_ris tab1 ens1 (SetTable.grown ens1.size)
    have p4 := relayAll_led tab1 ens1 (SetTable.grown ens1.size)
    generalize relayAll tab1 ens1 (SetTable.grown ens1.size) = R at p1 p2 p3 p4 ⊢
    obtain ⟨ens2, tab2, gave⟩ := R
    dsimp only at p1 p2 p3 p4 ⊢
    have p5 : ens2.size = ens1.size := by
      have := p1.length_eq
      simpa using this
    have p6 : ens2.size < scanBound := p5 ▸ hb
    refine wpAny_bind (hgv _ _ _ (wpAny_bind (wpAny_storeSet_of k1 rfl ?_ (fits_of_scanBound p6))))
    exact wpAny_pure (hW _ (k2.trans (Heap.SameBut.update _ at0 _)) ⟨_, ens2, _, tab2, store_at (es' := ens2) (t' := tab2) k1 rfl, hx, rfl, fun e h => he e (p1.mem_iff.mp h), (p1.map txtOf).trans hp, hn, p6, p2, p3,
      hl.imp id fun q => p4.trans q⟩)
  · exact wpAny_pure (hW _ k2 ⟨_, ens1, _, tab1, k1, hx, rfl, he, hp, hn, hb, hf, hr, hl⟩)

/-- what is there behind the add of k -/
def addK (k : Str) (ks : List Str) : List Str := if k ∈ ks then ks else k :: ks
theorem bag_add {k : Str} {u : Tok} {W : Bool → Shared → Prop} (b : Bag w z.heap at0 ks) (few : ks.length + 1 < scanBound)
    (hW : ∀ r m', Heap.SameBut at0 z.heap m' → Bag w m' at0 (addK k ks) → W r { z with heap := m' }) :
    wpAny (model P w) A (setAddHashed at0 (.str k u) ((PySem.strKind P w).hash k)) W B z := by
  obtain ⟨ob, ens, epo, tab, ho, hx, hd, he, hp, hn, hb, hf, hr, hl⟩ := b
  have hkey : (PySem.strKind P w).is k (.str k u) = true := PySem.strKind_is P w k u
  have scn : (Value.str k u).scannable = true := rfl
  have els : ElemsOf (PySem.strKind P w) ens.toList := ents_of he
  unfold setAddHashed setAddHashedIn
  refine wpAny_holding (wpAny_bind (wpAny_setState_of ho hd hf ?_))
  dsimp only
  rw [byScan_of scn hb els]
  simp only [↓reduceIte]
  unfold setAddByScan
  refine wpAny_bind (wpAny_bind (wpAny_rule (wpAny_bind (wpAny_setScan_of hkey ho hd hf els ?_))))
  have mm : k ∈ ks ↔ ∃ e ∈ ens.toList, (PySem.strKind P w).is k e.2 = true := hp.mem_iff.symm.trans (ents_mem he k)
  have hsz0 : ens.size = ks.length := by
    have := hp.length_eq
    simpa using this
  cases fi : List.findIdx? (fun e => (PySem.strKind P w).is k e.2) ens.toList with
  | some j =>
    dsimp only
    obtain ⟨hj, pj, _⟩ := List.findIdx?_eq_some_iff_getElem.mp fi
    have hk : k ∈ ks := mm.2 ⟨_, List.getElem_mem hj, pj⟩
    refine wpAny_pure (wpAny_pure ?_)
    exact hW _ z.heap (Heap.SameBut.refl at0 z.heap) (by unfold addK; rw [if_pos hk]; exact ⟨ob, ens, epo, tab, ho, hx, hd, he, hp, hn, hb, hf, hr, hl⟩)
  | none =>
    dsimp only
    have hk : k ∉ ks := fun q => by
      obtain ⟨e, h1, h2⟩ := mm.1 q
      rw [List.findIdx?_eq_none_iff.mp fi e h1] at h2
      cases h2
    have gw : ∀ (b : Bool) {z1 : Shared} {V1 : Unit → Shared → Prop}, V1 () z1 → wpAny (model P w) A (match b with | true => rule "set.scan.the-table-gave-way" | false => pure ()) V1 B z1 := by
      intro b z1 V1 q
      cases b
      · exact wpAny_pure q
      · exact wpAny_rule q
    have p1 := layNew_perm tab ens ((PySem.strKind P w).hash k) (.str k u)
    have p2 := layNew_fits tab ens ((PySem.strKind P w).hash k) (.str k u)
    have p3 := layNew_ris tab ens ((PySem.strKind P w).hash k) (.str k u) hr
    have p4 := layNew_led tab ens ((PySem.strKind P w).hash k) (.str k u)
    generalize layNew tab ens ((PySem.strKind P w).hash k) (.str k u) = L at p1 p2 p3 p4 ⊢
    obtain ⟨ens1, tab1, was, gave⟩ := L
    dsimp only at p1 p2 p3 p4 ⊢
    rw [Array.toList_push] at p1
    have q1 : ens1.toList.Perm (((PySem.strKind P w).hash k, Value.str k u) :: ens.toList) := p1.trans (List.perm_append_singleton _ _)
    have q2 : (ens1.toList.map txtOf).Perm (k :: ks) := (q1.map txtOf).trans (hp.cons k)
    have q3 : ∀ e ∈ ens1.toList, TxtE w e := fun e h => by
      rcases List.mem_cons.mp (q1.mem_iff.mp h) with y | y
      · subst y; exact ⟨k, u, rfl, rfl⟩
      · exact he e y
    have q4 : (k :: ks).Nodup := List.nodup_cons.mpr ⟨hk, hn⟩
    have q5 : ens1.size < scanBound := by
      have := q1.length_eq
      simp only [Array.length_toList, List.length_cons] at this
      omega
    have q6 : w.params.followText "set-order" = true ∨ tab1.led = true := hl.imp id fun y => p4.trans y
    have fin : ∀ m', Heap.SameBut at0 z.heap m' → Bag w m' at0 (k :: ks) → W true { z with heap := m' } := fun m' h1 h2 => hW true m' h1 (by unfold addK; rw [if_neg hk]; exact h2)
    refine wpAny_bind (gw _ ?_)
    split
    · refine wpAny_bind ?_
      rw [hashByValue_scannable 8 scn]
      refine wpAny_pure (bag_tail (ks := k :: ks) (fun b z1 V1 q => gw b q) ho hx hd q3 q2 q4 q5 ?_ ?_ ?_ fun m' h1 h2 => ?_)
      · first | (split <;> first | exact p2 | exact SetTable.fits_plain_off p2) | exact p2 | exact SetTable.fits_plain_off p2
      · first | (split <;> exact p3) | exact p3
      · first | (split <;> exact q6) | exact q6
      · dsimp only; exact wpAny_pure (fin m' h1 h2)
    · refine wpAny_bind (wpAny_pure ?_)
      simp only [↓reduceIte]
      refine bag_tail (ks := k :: ks) (fun b z1 V1 q => gw b q) ho hx hd q3 q2 q4 q5 p2 p3 q6 fun m' h1 h2 => ?_
      dsimp only; exact wpAny_pure (fin m' h1 h2)
end

/-! ### the loop over a text -/
def gather (l : Txt) : List Str := l.foldl (fun ks c => addK (tx [c]) ks) []
theorem gather_step {l : Txt} {i c : Nat} (h : l[i]? = some c) : gather (l.take (i + 1)) = addK (tx [c]) (gather (l.take i)) := by
  unfold gather
  rw [List.take_add_one, h, List.foldl_append]
  rfl
theorem gather_len (l : Txt) : (gather l).length ≤ l.length := by
  have aux : ∀ (l : Txt) (ks : List Str), (l.foldl (fun ks c => addK (tx [c]) ks) ks).length ≤ ks.length + l.length := by
    intro l
    induction l with
    | nil => intro ks; simp
    | cons c l ih =>
      intro ks
      have h1 := ih (addK (tx [c]) ks)
      have h2 : (addK (tx [c]) ks).length ≤ ks.length + 1 := by
        unfold addK
        split
        · omega
        · simp
      simp only [List.foldl_cons, List.length_cons]
      omega
  simpa [gather] using aux l []

section
variable {P : Program} {w : World} {A : Around} {B : Value → Shared → Prop} {at0 : Addr} {l : Txt} {itr : Addr} {fp wr : List Addr} {n : Nat} {Tw : Nat → Heap → Prop} {R : Result → Shared → Prop}
theorem bag_loop (go : Walks P w A.in1 itr fp wr n (SignAt (tx l)) Tw) (hn : n = l.length) (hfp : at0 ∉ fp) (few : l.length + 1 < scanBound) : ∀ (k i : Nat) (z : Shared), n - i = k → i ≤ n → Tw i z.heap → Bag w z.heap at0 (gather (l.take i)) →
    (∀ m' tk, (∀ b o, b ≠ at0 → b ∉ wr → z.heap.get? b = some o → m'.get? b = some o) → Bag w m' at0 (gather l) → R (.ok (.ret .none)) { z with heap := m', toks := tk }) →
    codeAny (model P w) A (.builtin "set.update.loop" ⟨[.ref at0, .ref itr], []⟩) R z := by
  have hwr : at0 ∉ wr := fun q => hfp (go.sub _ q)
  intro k
  induction k with
  | zero =>
    intro i z hk hi st bg fin
    have e : i = n := by omega
    refine codeAny_builtin PyProof.Rows.F.entry_set_update_loop ?_
    rw [Around.under_plainId PyProof.Rows.F.plain_set_update_loop _]
    show wpAny _ A.in1 (pyNext (.ref itr) >>= _) _ _ z
    refine wpAny_bind (go.done z _ _ (by rw [← e]; exact st) fun m' tk hm => ?_)
    rw [e, hn, List.take_length] at bg
    exact wpAny_pure (fin m' tk (fun b o _ hb => hm b o hb) (bg.at fun o => hm at0 o hwr))
  | succ k ih =>
    intro i z hk hi st bg fin
    have lt : i < n := by omega
    refine codeAny_builtin PyProof.Rows.F.entry_set_update_loop ?_
    rw [Around.under_plainId PyProof.Rows.F.plain_set_update_loop _]
    show wpAny _ A.in1 (pyNext (.ref itr) >>= _) _ _ z
    refine wpAny_bind (go.item i z _ _ lt st fun v m1 tk at1 st1 hm => ?_)
    obtain ⟨c, u, hc, rfl⟩ := at1
    have hc' : l[i]? = some c := by
      rw [← tx_cps l, Array.getElem?_toList]
      exact hc
    show wpAny _ A.in1 (holding [Value.str ⟨#[c]⟩ u] (setAdd at0 (.str ⟨#[c]⟩ u)) >>= _) _ _ _
    refine wpAny_bind (wpAny_holding ?_)
    unfold setAdd
    refine wpAny_holding (wpAny_bind ((PySem.strKind P w).pyHash (k := ⟨#[c]⟩) (PySem.strKind_is _ _ _ _) ?_))
    have glen := gather_len (l.take i)
    have tlen : (l.take i).length ≤ l.length := by simp; omega
    refine bag_add (P := P) (ks := gather (l.take i)) (z := { z with heap := m1, toks := tk + 1 }) (bg.at fun o => hm at0 o hwr) (by omega) fun r m2 same bg2 => ?_
    refine wpAny_pure ⟨plainId_quiet PyProof.Rows.F.plain_set_update_loop _, ih (i + 1) { z with heap := m2, toks := tk + 1 } (by omega) lt (go.frame _ _ _ st1 fun b hb o he => ?_) (by rw [gather_step hc']; exact bg2) fun m3 tk3 hm3 bg3 => ?_⟩
    · exact (same.2 b (fun q => hfp (q ▸ hb))).trans he
    · exact fin m3 tk3 (fun b o h1 h2 h3 => hm3 b o h1 h2 ((same.2 b h1).trans (hm b o h2 h3))) bg3

def freshSet (w : World) : Obj := { cls := .type "set", dict := none, data := .set #[] 0 (.fresh 0 0 (!w.params.followText "set-order")) }
theorem bag_fresh {m : Heap} (h : m.get? at0 = some (freshSet w)) : Bag w m at0 [] := by
  refine ⟨_, _, _, _, h, ⟨rfl, rfl, rfl⟩, rfl, fun e he => by simp at he, List.Perm.refl _, List.nodup_nil, by decide, rfl, List.Pairwise.nil, ?_⟩
  show _ ∨ (!w.params.followText "set-order") = true
  cases w.params.followText "set-order"
  · exact .inr rfl
  · exact .inl rfl

set_option maxHeartbeats 8000000 in
/-- set(text) -/
theorem call_set_sign {z : Shared} {u : Tok} {Q : Value → Shared → Prop} (calm : A.handled = none) (few : l.length + 1 < scanBound)
    (fin : ∀ (m' : Heap) (tk : Nat), Bag w m' z.heap.objs.size (gather l) → (∀ b o, z.heap.get? b = some o → m'.get? b = some o) → Q (.ref z.heap.objs.size) { z with heap := m', toks := tk }) :
    wpAny (model P w) A (call (.type "set") [.str (tx l) u]) Q B z := by
  obtain ⟨mc, mt, hmro⟩ := F.called_set.mro
  have hmade := F.called_set.made
  have hsub := F.called_set.sub
  refine wpAny_call (codeAny_of_tree ?_)
  show wpAny _ _ (callAny (.type "set") _) _ _ _
  refine wpAny_pure ⟨Code.quiet_builtin _ (by decide +kernel), codeAny_builtin F.entry_type_call ?_⟩
  rw [Around.under_plain (weight_type_call_type "set" [.str (tx l) u] []) rfl]
  have f1 := F.called_set.notType
  have f2 := F.called_set.canCreate
  have f3 := F.typeCall_set_1 (.str (tx l) u)
  repeat (any_goals (first | assumption | wp_step))
  refine codeAny_mono (code_set_led1 (.str (tx l) u) (E := B) (Q₁ := fun ob z1 => ob = .ref z.heap.objs.size ∧ z1 = { z with heap := z.heap.push (freshSet w) }) ⟨rfl, rfl⟩) fun res z1 hres => ?_
  cases res with
  | error _ => exact hres
  | ok fl =>
    cases fl with
    | ret ob =>
      obtain ⟨rfl, rfl⟩ := hres
      have g0 : (z.heap.push (freshSet w)).get? z.heap.objs.size = some (freshSet w) := Heap.get?_push_size _ rfl
      have hT : Shared.TypeIs { z with heap := z.heap.push (freshSet w) } (.ref z.heap.objs.size) "set" := ⟨_, g0, rfl⟩
      have f4 := F.called_set.init.lookup
      have f5 := F.called_set.init.bind (.ref z.heap.objs.size)
      repeat (any_goals (first | assumption | wp_step))
      refine codeAny_mono (codeAny_call_builtin (R := wants (fun r z2 => r = .none ∧ ∃ m' tk, z2 = { z with heap := m', toks := tk } ∧ Bag w m' z.heap.objs.size (gather l) ∧ (∀ b o, z.heap.get? b = some o → m'.get? b = some o)) B) F.called_set.init.plain F.entry_set_init (check_set_init_1 hT ?_)) fun res2 z2 hres2 => ?_
      · have n1 : (Value.type "str" == Value.type "dict") = false := by decide
        have n2 := PySem.F.sub_str_set
        have n3 := PySem.F.sub_str_frozenset
        unfold Builtin.«set.__init__» noKeywords Builtin.Frozenset.updateFrom
        generalize hPI : pyIter = PI
        wp_walk
        subst hPI
        refine wpAny_pyIter_str fun io Tw go st => ?_
        refine wpAny_bind (wpAny_runValue ?_)
        have hz1 : (z.heap.push (freshSet w)).objs.size = z.heap.objs.size + 1 := Heap.size_push ..
        have calm3 : A.in1.in1.in1.handled = none := by simp [calm]
        have hfp : z.heap.objs.size ∉ [(z.heap.push (freshSet w)).objs.size] := by
          rw [List.mem_singleton, hz1]
          omega
        refine bag_loop (l := l) (go _ calm3) (by simp [tx]) hfp few (l.length - 0) 0 _ (by simp [tx]) (Nat.zero_le _) st (bag_fresh (Heap.get?_push_of_some _ g0)) fun m' tk hm bg => ?_
        show wpAny _ _ _ _ _ _
        refine wpAny_pure ?_
        show wpAny _ _ (ret Value.none) _ _ _
        refine wpAny_pure ⟨rfl, m', tk, rfl, bg, fun b o hb => ?_⟩
        have hlt : b < z.heap.objs.size := Heap.lt_size hb
        have hne : b ∉ [(z.heap.push (freshSet w)).objs.size] := by
          rw [List.mem_singleton, hz1]
          exact Nat.ne_of_lt (Nat.lt_succ_of_lt hlt)
        exact hm b o (Nat.ne_of_lt hlt) hne (Heap.get?_push_of_some _ (Heap.get?_push_of_some _ hb))
      · cases res2 with
        | error _ => exact hres2
        | ok fl2 =>
          cases fl2 with
          | ret r =>
            obtain ⟨rfl, m', tk, rfl, bg, km⟩ := hres2
            repeat (any_goals (first | assumption | wp_step))
            exact fin m' tk bg km
          | _ => exact hres2.elim
    | _ => exact hres.elim
end
end Wk

/-! Wk15: sorted(set(text)), sorted(dict(..)). -/
namespace Wk
open PySem L2

/-! ### the signs of a text, rising, each once -/
def insUp (c : Nat) : Txt → Txt
  | [] => [c]
  | d :: l => if c < d then c :: d :: l else if c = d then d :: l else d :: insUp c l
def ups (l : Txt) : Txt := l.foldr insUp []
theorem insUp_mem {c x : Nat} : ∀ {l : Txt}, x ∈ insUp c l ↔ x = c ∨ x ∈ l
  | [] => by simp [insUp]
  | d :: l => by
    unfold insUp
    split
    · simp
    · split
      · rename_i h
        subst h
        simp
      · rw [List.mem_cons, insUp_mem (l := l), List.mem_cons]
        exact ⟨fun h => h.elim (fun y => .inr (.inl y)) fun h => h.elim .inl fun y => .inr (.inr y), fun h => h.elim (fun y => .inr (.inl y)) fun h => h.elim .inl fun y => .inr (.inr y)⟩
theorem insUp_up {c : Nat} : ∀ {l : Txt}, l.Pairwise (· < ·) → (insUp c l).Pairwise (· < ·)
  | [], _ => by simp [insUp]
  | d :: l, h => by
    obtain ⟨h1, h2⟩ := List.pairwise_cons.mp h
    unfold insUp
    split
    · rename_i hc
      refine List.pairwise_cons.mpr ⟨fun y hy => ?_, h⟩
      rcases List.mem_cons.mp hy with q | q
      · omega
      · have := h1 y q
        omega
    · split
      · exact h
      · refine List.pairwise_cons.mpr ⟨fun y hy => ?_, insUp_up h2⟩
        rcases insUp_mem.mp hy with q | q
        · omega
        · exact h1 y q
theorem ups_mem {x : Nat} : ∀ {l : Txt}, x ∈ ups l ↔ x ∈ l
  | [] => by simp [ups]
  | d :: l => by
    show x ∈ insUp d (ups l) ↔ _
    rw [insUp_mem, ups_mem (l := l), List.mem_cons]
theorem ups_up : ∀ l : Txt, (ups l).Pairwise (· < ·)
  | [] => List.Pairwise.nil
  | d :: l => insUp_up (ups_up l)
/-- rising lists with the same members are one -/
theorem up_eq : ∀ {k l : Txt}, k.Pairwise (· < ·) → l.Pairwise (· < ·) → (∀ x, x ∈ k ↔ x ∈ l) → k = l
  | [], [], _, _, _ => rfl
  | [], d :: l, _, _, h => absurd ((h d).2 (by simp)) (by simp)
  | c :: k, [], _, _, h => absurd ((h c).1 (by simp)) (by simp)
  | c :: k, d :: l, hk, hl, h => by
    obtain ⟨k1, k2⟩ := List.pairwise_cons.mp hk
    obtain ⟨l1, l2⟩ := List.pairwise_cons.mp hl
    have e : c = d := by
      have a := (h c).1 (by simp)
      have b := (h d).2 (by simp)
      rcases List.mem_cons.mp a with y | y
      · exact y
      · rcases List.mem_cons.mp b with z | z
        · exact z.symm
        · have := l1 c y
          have := k1 d z
          omega
    subst e
    rw [up_eq k2 l2 fun x => ?_]
    constructor
    · intro hx
      rcases List.mem_cons.mp ((h x).1 (List.mem_cons_of_mem _ hx)) with y | y
      · subst y
        exact absurd (k1 x hx) (Nat.lt_irrefl _)
      · exact y
    · intro hx
      rcases List.mem_cons.mp ((h x).2 (List.mem_cons_of_mem _ hx)) with y | y
      · subst y
        exact absurd (l1 x hx) (Nat.lt_irrefl _)
      · exact y
theorem ups_self {l : Txt} (h : l.Pairwise (· < ·)) : ups l = l := up_eq (ups_up l) h fun x => ups_mem
theorem ups_of_same {k l : Txt} (h : ∀ x, x ∈ k ↔ x ∈ l) : ups k = ups l := up_eq (ups_up k) (ups_up l) fun x => by rw [ups_mem, ups_mem, h]
theorem ups_perm {k l : Txt} (h : k.Perm l) : ups k = ups l := ups_of_same fun x => h.mem_iff
theorem gather_spec (l : Txt) : (gather l).Nodup ∧ ∀ x, x ∈ gather l ↔ ∃ c ∈ l, x = tx [c] := by
  have aux : ∀ (l : Txt) (ks : List Str), ks.Nodup → (l.foldl (fun ks c => addK (tx [c]) ks) ks).Nodup ∧ ∀ x, x ∈ l.foldl (fun ks c => addK (tx [c]) ks) ks ↔ x ∈ ks ∨ ∃ c ∈ l, x = tx [c] := by
    intro l
    induction l with
    | nil => intro ks h; exact ⟨h, fun x => by simp⟩
    | cons c l ih =>
      intro ks h
      have h1 : (addK (tx [c]) ks).Nodup := by
        unfold addK
        split
        · exact h
        · exact List.nodup_cons.mpr ⟨by assumption, h⟩
      have h2 : ∀ x, x ∈ addK (tx [c]) ks ↔ x = tx [c] ∨ x ∈ ks := fun x => by
        unfold addK
        split
        · rename_i q
          exact ⟨.inr, fun y => y.elim (fun y => y ▸ q) id⟩
        · exact List.mem_cons
      obtain ⟨i1, i2⟩ := ih _ h1
      refine ⟨i1, fun x => ?_⟩
      rw [List.foldl_cons, i2 x, h2 x]
      simp only [List.mem_cons, exists_eq_or_imp]
      exact ⟨fun y => y.elim (fun y => y.elim (fun z => .inr (.inl z)) .inl) fun z => .inr (.inr z), fun y => y.elim (fun z => .inl (.inr z)) fun y => y.elim (fun z => .inl (.inl z)) .inr⟩
  obtain ⟨h1, h2⟩ := aux l [] List.nodup_nil
  exact ⟨h1, fun x => by unfold gather; rw [h2 x]; simp⟩
/-- texts of one sign each, all unlike, in order -/
theorem sorted_signs {ys : List Str} {l : Txt} (hs : PyProof.Rows.sortedS ys = true) (hd : ys.Nodup) (hm : ∀ x, x ∈ ys ↔ ∃ c ∈ l, x = tx [c]) : ys = (ups l).map fun c => tx [c] := by
  have hall : ∀ x ∈ ys, ∃ c, x = tx [c] := fun x hx => by
    obtain ⟨c, _, e⟩ := (hm x).1 hx
    exact ⟨c, e⟩
  have hc : ∃ cs : Txt, ys = cs.map fun c => tx [c] := by
    clear hm hs hd
    induction ys with
    | nil => exact ⟨[], rfl⟩
    | cons y ys ih =>
      obtain ⟨c, e⟩ := hall y (by simp)
      obtain ⟨cs, e2⟩ := ih fun x hx => hall x (List.mem_cons_of_mem _ hx)
      exact ⟨c :: cs, by rw [List.map_cons, e, e2]⟩
  obtain ⟨cs, rfl⟩ := hc
  have ris : ∀ (c : Nat) (cs : Txt), PyProof.Rows.risingS (tx [c]) (cs.map fun c => tx [c]) = true → (c :: cs).Pairwise (· ≤ ·) := by
    intro c cs
    induction cs generalizing c with
    | nil => intro _; simp
    | cons d cs ih =>
      intro h
      have h' : (!PySem.Spec.ltCps [d] [c] && PyProof.Rows.risingS (tx [d]) (cs.map fun c => tx [c])) = true := h
      rw [Bool.and_eq_true] at h'
      have p1 := ih d h'.2
      have p2 : c ≤ d := by
        have := h'.1
        simp [PySem.Spec.ltCps] at this
        exact this
      refine List.pairwise_cons.mpr ⟨fun y hy => ?_, p1⟩
      rcases List.mem_cons.mp hy with q | q
      · omega
      · exact Nat.le_trans p2 ((List.pairwise_cons.mp p1).1 y q)
  have inj : ∀ {a b : Nat}, tx [a] = tx [b] → a = b := fun {a b} h => by simpa using tx_inj h
  have le : cs.Pairwise (· ≤ ·) := by
    cases cs with
    | nil => exact List.Pairwise.nil
    | cons c cs => exact ris c cs hs
  have nd : cs.Pairwise (· ≠ ·) := by
    have := List.pairwise_map.mp hd
    exact this.imp fun h e => h (by rw [e])
  have lt : cs.Pairwise (· < ·) := (le.and nd).imp fun h => by omega
  rw [up_eq lt (ups_up l) fun x => ?_]
  rw [ups_mem]
  have := hm (tx [x])
  constructor
  · intro hx
    obtain ⟨c, h1, h2⟩ := this.1 (List.mem_map.mpr ⟨x, hx, rfl⟩)
    rw [inj h2]
    exact h1
  · intro hx
    obtain ⟨c, h1, h2⟩ := List.mem_map.mp (this.2 ⟨x, hx, rfl⟩)
    rw [← inj h2]
    exact h1

/-! ### sorted(set(text)) -/
section
variable {X : Cx}
theorem bag_sorted {P : Program} {w : World} {A : Around} {B : Value → Shared → Prop} {z : Shared} {at0 : Addr} {ks : List Str} {Q : Value → Shared → Prop} (b : Bag w z.heap at0 ks) (calm : A.handled = none) (few : ks.length < 64)
    (fin : ∀ (z' : Shared) (p : Addr) (out : Array Value) (n : Nat) (ys : List Str), (∀ b o, z.heap.get? b = some o → z'.heap.get? b = some o) → z'.gens = z.gens → z'.os = z.os → z.heap.objs.size ≤ p → z'.heap.get? p = some (PyProof.Rows.seqObj "list" out n) →
      PyProof.Rows.StrsAre out.toList ys → ys.Perm ks → PyProof.Rows.sortedS ys = true → Q (.ref p) z') : wpAny (model P w) A (call (.builtin "sorted") [.ref at0]) Q B z := by
  obtain ⟨ob, ens, epo, tab, ho, hx, hd, he, hp, hn, hb, hf, hr, hl⟩ := b
  refine Calls.call_function_entry PyProof.Rows.kind_sorted PyProof.Rows.plain_sorted PyProof.Rows.entry_sorted (PyProof.Rows.args_sorted1 _) ?_
  unfold Builtin.«sorted»
  refine wpAny_bind (m := checkCount "sorted" 1 1 _) (wpAny_pure (wpAny_bind (collect_set (A := A.in1) calm ⟨ob, ho, hx.1, hd⟩ hf hb hr hl fun z1 vs k1 sz1 g1 o1 pm => ?_)))
  have hS : PyProof.Rows.StrsAre vs (vs.map PyProof.Rows.strOf) := PyProof.Rows.strsAre_map vs fun v hv => by
    obtain ⟨e, h1, rfl⟩ := List.mem_map.mp (pm.mem_iff.mp hv)
    obtain ⟨k, u, h2, _⟩ := he e h1
    exact ⟨k, u, h2⟩
  have pk : (vs.map PyProof.Rows.strOf).Perm ks := by
    have q := pm.map PyProof.Rows.strOf
    rw [List.map_map] at q
    refine q.trans ?_
    rw [show ens.toList.map (PyProof.Rows.strOf ∘ fun e => e.2) = ens.toList.map txtOf from List.map_congr_left fun e h => by
      obtain ⟨k, u, h2, _⟩ := he e h
      show PyProof.Rows.strOf e.2 = txtOf e
      unfold txtOf
      rw [h2]
      rfl]
    exact hp
  have hlen : vs.length < 64 := by
    have := pk.length_eq
    rw [List.length_map] at this
    omega
  refine wpAny_bind (wpAny_newList ?_ (by rw [sizeLine_eq]; omega))
  have hoL : (z1.heap.push (PyProof.Rows.seqObj "list" vs.toArray 0)).get? z1.heap.objs.size = some (PyProof.Rows.seqObj "list" vs.toArray 0) := Heap.get?_push_size _ rfl
  refine wpAny_bind (wpAny_holding (wpAny_call_entry PyProof.Rows.slot_list_sort ⟨_, hoL, rfl⟩ PyProof.Rows.entry_list_sort
    (PyProof.Rows.list_sort_treeK PyProof.Rows.strKind_oneLt hoL hS.keysOf (fun v₁ v₂ rest e => PyProof.Rows.keyKind_strs (by rw [← e]; exact hS)) hlen fun so hpm hso => ⟨_, rfl, ?_⟩) (PyProof.Rows.args_list_sort _)))
  obtain ⟨ys, y1, y2, y3⟩ := PyProof.Rows.sorted_out_str hS hpm hso
  obtain ⟨n, hat⟩ := PyProof.Rows.sortedHeap_at (vs := vs) (out := (PyProof.Rows.arrOf so).map (·.2)) hoL
  refine wpAny_pure ⟨_, rfl, fin _ z1.heap.objs.size _ n ys (fun b o hb => ?_) g1 o1 sz1 hat y1 (y2.trans pk) y3⟩
  have q := k1 b o hb
  have lt := Heap.lt_size q
  show (PyProof.Rows.sortedHeap (z1.heap.push (PyProof.Rows.seqObj "list" vs.toArray 0)) z1.heap.objs.size vs _).get? b = some o
  rw [PyProof.Rows.sortedHeap_old (Nat.ne_of_lt lt) (by rw [PyProof.Rows.size_push']; exact Nat.lt_succ_of_lt lt)]
  exact Heap.get?_push_of_some _ q
def tUps (ta : TE) : TE := fun σ H Q => ta σ H fun x H1 => ∃ l : Txt, x = .str (tx l) ∧ l.length < 60 ∧ ∀ p, H1 p = none → Q (.ref p) (upd H1 p (.lst ((ups l).map fun c => V.str (tx [c]))))
theorem pe_ups {a : Expr} {ta : TE} {p p2 q pos : Pos} (hc : X.calm = true) (hg : Gl X "sorted") (hm : X.mg "sorted" = none) (hg2 : Gl X "set") (hm2 : X.mg "set" = none) (ha : PE X a ta)
    (na : starEach [a] X.env = (false, eval a X.env) :: starEach [] X.env := by rfl) : PE X (.Call (.Name "sorted" p) [.Call (.Name "set" p2) [a] [] q] [] pos) (tUps ta) := by
  refine ⟨fun pins z σ H Q I h => ?_⟩
  refine PyProof.Rows.Call_ (ld_blt I hg hm PyProof.Rows.boot_sorted ?_)
  refine PyProof.Rows.callWith_builtin1 (PyProof.Rows.args_cons ?_ rfl) rfl rfl
  refine PyProof.Rows.Call_ (ld_blt I hg2 hm2 PyProof.Rows.boot_set ?_)
  refine PyProof.Rows.callWith_type1 (PyProof.Rows.args_cons (thn (ha.run pins z σ H _ I h) fun v z1 ⟨x, H1, I1, r1, q1⟩ => PyProof.Rows.args_nil ?_) na) na rfl
  obtain ⟨l, rfl, hl, fin⟩ := q1
  obtain ⟨u, rfl⟩ := r1
  refine call_set_sign (I1.ok.hd hc) (by unfold scanBound; omega) fun m' tk bg km => ?_
  have I2 : Inv X pins σ H1 { z1 with heap := m', toks := tk } := I1.kept km
  refine PyProof.Rows.args_nil (bag_sorted (z := { z1 with heap := m', toks := tk }) bg (I1.ok.hd hc) (by have := gather_len l; omega) fun z3 p out n ys k3 g3 o3 hp ho hs pm hss => ?_)
  obtain ⟨g1, g2⟩ := gather_spec l
  have e := sorted_signs (l := l) hss (pm.nodup_iff.mpr g1) fun x => by rw [pm.mem_iff, g2 x]
  have ye : ys.map V.str = (ups l).map fun c => V.str (tx [c]) := by rw [e, List.map_map]; rfl
  have yl : ys.length ≤ l.length := by rw [pm.length_eq]; exact gather_len l
  have hn : H1 p = none := I2.hok.fresh hp
  have J : Inv X pins σ (upd H1 p (.lst (ys.map V.str))) { ({ z1 with heap := m', toks := tk } : Shared) with heap := z3.heap, gens := z3.gens, drawn := z3.drawn, toks := z3.toks } :=
    Inv.call (s := { z1 with heap := m', toks := tk }) (ch := []) I2 (Un.laid k3 hp hn) (I2.hok.laid k3 hp ⟨by rw [List.length_map, sizeLine_eq]; omega, out.toList, n, vals_of_strs hs, by rw [Array.toArray_toList]; exact ho⟩) (by rw [g3]; exact I2.bare) (fun _ y => nomatch y)
  have ez : z3 = { z1 with heap := z3.heap, gens := z3.gens, drawn := z3.drawn, toks := z3.toks } := by
    cases z3
    cases z1
    cases o3
    rfl
  rw [ez]
  exact ⟨.ref p, _, J, rfl, by rw [ye]; exact fin p hn⟩
end

section
variable {ι : Type} {X : ι → Cx} {S : Sit} {sl sl1 sl2 sl3 : List Slot} {e : Expr} {pos p1 p2 p3 : Pos}
/-- sorted(set(text)) -/
theorem x_ups {l : Txt} (f : Fam X S) (h : E X e sl sl1 l) (hl : l.length < 60) (hg : ∀ i, Gl (X i) "sorted") (hm : S.mg "sorted" = none) (hg2 : ∀ i, Gl (X i) "set") (hm2 : S.mg "set" = none)
    (na : ∀ i, starEach [e] (X i).env = (false, eval e (X i).env) :: starEach [] (X i).env := by intro _; rfl) : EN X (.Call (.Name "sorted" p1) [.Call (.Name "set" p2) [e] [] p3] [] pos) sl sl1 (cl ((ups l).map fun c => ([c] : Txt))) := by
  obtain ⟨te, a1, a2⟩ := h
  refine ⟨tUps te, fun i => pe_ups (f.calm i) (hg i) (by rw [f.mg i]; exact hm) (hg2 i) (by rw [f.mg i]; exact hm2) (a1 i) (na i), a2.1, fun σ F H r Q q => a2.2 σ F H r _ fun v F1 H1 s1 r1 hv => ⟨l, hv, hl, fun p hp => new_end (sl := sl) q s1 r1 ⟨_, rfl, ?_⟩ p hp⟩⟩
  rw [Reps.flat, List.map_map]
  rfl
end
end Wk

/-! Wk16: dict(zip(text, text)). -/
namespace Wk
open PySem L2

section
variable {P : Program} {w : World} {A : Around} {B : Value → Shared → Prop} {z : Shared} {zp tin tout ia ib T : Addr} {fa fb : List Addr} {na nb i : Nat} {Pa Pb : Nat → Value → Prop} {Ta Tb : Nat → Heap → Prop} {f : Bool} {oT : Obj}

/-- the next pair of a zip while the last one is still held -/
theorem zipHeld_next (S : ZipSep2 zp tin tout ia ib fa fb) (Da : Draws P w A ia fa na Pa Ta) (Db : Draws P w A ib fb nb Pb Tb) (hz : IsZipHeld z.heap zp tin tout T f) (hT : z.heap.get? T = some oT) (hti : IsTupOf2 z.heap tin (.ref ia) (.ref ib))
    (sa : Ta i z.heap) (sb : Tb i z.heap) (la : i < na) (lb : i < nb) {Q : Value → Shared → Prop}
    (fin : ∀ x y m' tk, Pa i x → Pb i y → IsZipHeld m' zp tin tout T true → Ta (i + 1) m' → Tb (i + 1) m' → IsTupOf2 m' z.heap.objs.size x y → (∀ c o, c ≠ zp → c ≠ ia → c ≠ ib → z.heap.get? c = some o → m'.get? c = some o) →
      Q (.ref z.heap.objs.size) { z with heap := m', toks := tk }) : wpAny (model P w) A (Builtin.«zip.__next__» ⟨[.ref zp], []⟩) (fun r z' => ∃ v, r = .done (.ret v) ∧ Q v z') B z := by
  obtain ⟨m0, g0, d0, t0, o0⟩ := z
  show wpAny _ _ (field (.ref zp) 2 >>= _) _ _ _
  refine wpAny_bind (wpAny_field hz rfl (x := .bool false) rfl ?_)
  show wpAny _ _ (field (.ref zp) 3 >>= _) _ _ _
  refine wpAny_bind (wpAny_field hz rfl (x := .ref tin) rfl (wpAny_bind (wpAny_seqItems hti rfl ?_)))
  show wpAny _ _ (Builtin.SmallTypes.ownedTupleIsFree (.ref zp) >>= _) _ _ _
  refine wpAny_bind (wpAny_tupleHeld_zip hz hT fun m1 z1 k1 => ?_)
  replace z1 : IsZipHeld m1 zp tin tout T true := z1
  replace k1 : Heap.SameBut zp m0 m1 := k1
  simp only [Bool.false_eq_true, if_false]
  refine wpAny_bind ?_
  rw [← Array.forIn_toList]
  simp only [List.forIn_cons, List.forIn_nil]
  refine wpAny_bind (wpAny_bind (wpAny_holding ?_))
  show wpAny _ _ (Builtin.SmallTypes.nextOf (.ref ia) >>= _) _ _ ⟨m1, g0, d0, t0, o0⟩
  refine wpAny_bind (Da.item i _ _ _ la (Da.over sa k1 S.zf1) fun x m2 t2 hx na2 k2 => wpAny_pure (wpAny_pure ?_))
  replace k2 : Heap.SameBut ia m1 m2 := k2
  refine wpAny_bind (wpAny_bind (wpAny_holding ?_))
  show wpAny _ _ (Builtin.SmallTypes.nextOf (.ref ib) >>= _) _ _ ⟨m2, g0, d0, t2, o0⟩
  refine wpAny_bind (Db.item i _ _ _ lb (Db.over (Db.over sb k1 S.zf2) k2 S.sep1_2) fun y m3 t3 hy nb3 k3 => wpAny_pure (wpAny_pure (wpAny_pure ?_)))
  replace k3 : Heap.SameBut ib m2 m3 := k3
  show wpAny _ _ (newTuple [x, y] >>= _) _ _ _
  refine wpAny_bind (wpAny_newTuple (wpAny_pure ⟨_, rfl, ?_⟩))
  have esz : m3.objs.size = m0.objs.size := by rw [k3.1, k2.1, k1.1]
  have up : ∀ c o, c ≠ zp → c ≠ ia → c ≠ ib → m0.get? c = some o → m3.get? c = some o := fun c o c1 c2 c3 e => k3.extBut _ _ c3 (k2.extBut _ _ c2 (k1.extBut _ _ c1 e))
  have z3 : IsZipHeld m3 zp tin tout T true := k3.extBut _ _ S.zi2 (k2.extBut _ _ S.zi1 z1)
  have tu : IsTupOf2 (m3.push { cls := .type "tuple", data := .seq #[x, y] }) m3.objs.size x y := Heap.get?_push_size _ rfl
  show Q (.ref m3.objs.size) ⟨_, g0, d0, t3, o0⟩
  rw [esz] at tu ⊢
  exact fin x y _ t3 hx hy (Heap.get?_push_of_some _ z3) (Da.frame _ _ _ (Da.over na2 k3 S.sep2_1) fun b _ o e => Heap.get?_push_of_some _ e) (Db.frame _ _ _ nb3 fun b _ o e => Heap.get?_push_of_some _ e) tu fun c o c1 c2 c3 e => Heap.get?_push_of_some _ (up c o c1 c2 c3 e)
/-- its end, both being spent -/
theorem zipHeld_end (S : ZipSep2 zp tin tout ia ib fa fb) (Da : Draws P w A ia fa na Pa Ta) (hz : IsZipHeld z.heap zp tin tout T f) (hT : z.heap.get? T = some oT) (hti : IsTupOf2 z.heap tin (.ref ia) (.ref ib))
    (sa : Ta na z.heap) {Q : Fin → Shared → Prop}
    (fin : ∀ m' e, (∀ c o, c ≠ zp → c ≠ ia → z.heap.get? c = some o → m'.get? c = some o) → (∃ o, m'.get? e = some o ∧ o.cls = .type "StopIteration") → B (.ref e) { z with heap := m' }) :
    wpAny (model P w) A (Builtin.«zip.__next__» ⟨[.ref zp], []⟩) Q B z := by
  obtain ⟨m0, g0, d0, t0, o0⟩ := z
  show wpAny _ _ (field (.ref zp) 2 >>= _) _ _ _
  refine wpAny_bind (wpAny_field hz rfl (x := .bool false) rfl ?_)
  show wpAny _ _ (field (.ref zp) 3 >>= _) _ _ _
  refine wpAny_bind (wpAny_field hz rfl (x := .ref tin) rfl (wpAny_bind (wpAny_seqItems hti rfl ?_)))
  show wpAny _ _ (Builtin.SmallTypes.ownedTupleIsFree (.ref zp) >>= _) _ _ _
  refine wpAny_bind (wpAny_tupleHeld_zip hz hT fun m1 z1 k1 => ?_)
  replace k1 : Heap.SameBut zp m0 m1 := k1
  simp only [Bool.false_eq_true, if_false]
  refine wpAny_bind ?_
  rw [← Array.forIn_toList]
  simp only [List.forIn_cons, List.forIn_nil]
  refine wpAny_bind (wpAny_bind (wpAny_holding ?_))
  show wpAny _ _ (Builtin.SmallTypes.nextOf (.ref ia) >>= _) _ _ ⟨m1, g0, d0, t0, o0⟩
  refine wpAny_bind (Da.done ⟨m1, g0, d0, t0, o0⟩ _ _ (Da.over sa k1 S.zf1) fun m2 e k2 he => ?_)
  exact fin m2 e (fun c o c1 c2 h => k2 _ _ c2 (k1.extBut _ _ c1 h)) he
theorem pyNext_zipHeld (S : ZipSep2 zp tin tout ia ib fa fb) (Da : Draws P w A.in1 ia fa na Pa Ta) (Db : Draws P w A.in1 ib fb nb Pb Tb) (hz : IsZipHeld z.heap zp tin tout T f) (hT : z.heap.get? T = some oT) (hti : IsTupOf2 z.heap tin (.ref ia) (.ref ib))
    (sa : Ta i z.heap) (sb : Tb i z.heap) (la : i < na) (lb : i < nb) {Q : Option Value → Shared → Prop}
    (fin : ∀ x y m' tk, Pa i x → Pb i y → IsZipHeld m' zp tin tout T true → Ta (i + 1) m' → Tb (i + 1) m' → IsTupOf2 m' z.heap.objs.size x y → (∀ c o, c ≠ zp → c ≠ ia → c ≠ ib → z.heap.get? c = some o → m'.get? c = some o) →
      Q (some (.ref z.heap.objs.size)) { z with heap := m', toks := tk }) : wpAny (model P w) A (pyNext (.ref zp)) Q B z := by
  have ty : z.TypeIs (.ref zp) "zip" := ⟨_, hz, rfl⟩
  unfold pyNext
  exact wpAny_bind (wpAny_attempt (wpAny_callSpecial?_slot (name := Str.ofString "__next__") ty F.slot_zip_next (wpAny_call_entry F.slot_zip_next ty F.entry_zip_next
    (zipHeld_next S Da Db hz hT hti sa sb la lb fun x y m' tk h1 h2 h3 h4 h5 h6 h7 => wpAny_pure (fin x y m' tk h1 h2 h3 h4 h5 h6 h7)) (F.args_zip_next_1 _))))
theorem pyNext_zipHeld_end (S : ZipSep2 zp tin tout ia ib fa fb) (Da : Draws P w A.in1 ia fa na Pa Ta) (hz : IsZipHeld z.heap zp tin tout T f) (hT : z.heap.get? T = some oT) (hti : IsTupOf2 z.heap tin (.ref ia) (.ref ib))
    (sa : Ta na z.heap) {Q : Option Value → Shared → Prop} (fin : ∀ m', (∀ c o, c ≠ zp → c ≠ ia → z.heap.get? c = some o → m'.get? c = some o) → Q none { z with heap := m' }) : wpAny (model P w) A (pyNext (.ref zp)) Q B z := by
  have ty : z.TypeIs (.ref zp) "zip" := ⟨_, hz, rfl⟩
  unfold pyNext
  refine wpAny_bind (wpAny_attempt (wpAny_callSpecial?_slot (name := Str.ofString "__next__") ty F.slot_zip_next (wpAny_call_entry F.slot_zip_next ty F.entry_zip_next (zipHeld_end S Da hz hT hti sa fun m' e hk he => ?_) (F.args_zip_next_1 _))))
  obtain ⟨o, h1, h2⟩ := he
  exact wpAny_bind (wpAny_isInstance (T := "StopIteration") (b := true) ⟨o, h1, h2⟩ isSubtype_stop (wpAny_pure (fin _ hk)))
end

/-- the value is the sign at i -/
def SgnAt (l : Txt) (i : Nat) (v : Value) : Prop := ∃ c u, l[i]? = some c ∧ v = .str (tx [c]) u
theorem drawTx {P : Program} {w : World} {A : Around} (hh : A.handled = none) (it : Addr) (l : Txt) (t : Tok) :
    Draws P w A it [it] l.length (SgnAt l) (fun i m => m.IsStrIter it (strIterType (tx l)) (tx l) t i) := by
  have d := Draws.text (prog := P) (w := w) hh it (tx l) t
  have e1 : (tx l).cps.size = l.length := by simp [tx]
  have e2 : ∀ i, (tx l).cps[i]? = l[i]? := fun i => by rw [← Array.getElem?_toList, tx_cps]
  simp only [e1, e2] at d
  exact d
/-- the cells of a zip of two texts -/
structure ZipTx (m : Heap) (zp tin tout ia ib : Addr) (a b : Txt) (ta tb : Tok) (i : Nat) : Prop where
  tup : IsTupOf2 m tin (.ref ia) (.ref ib)
  one : m.IsStrIter ia (strIterType (tx a)) (tx a) ta i
  two : m.IsStrIter ib (strIterType (tx b)) (tx b) tb i
theorem ZipTx.keep {m m' : Heap} {zp tin tout ia ib : Addr} {a b : Txt} {ta tb : Tok} {i : Nat} (h : ZipTx m zp tin tout ia ib a b ta tb i) (k : ∀ c o, c = tin ∨ c = ia ∨ c = ib → m.get? c = some o → m'.get? c = some o) : ZipTx m' zp tin tout ia ib a b ta tb i :=
  ⟨k _ _ (.inl rfl) h.tup, let ⟨o, e, r⟩ := h.one; ⟨o, k _ o (.inr (.inl rfl)) e, r⟩, let ⟨o, e, r⟩ := h.two; ⟨o, k _ o (.inr (.inr rfl)) e, r⟩⟩

set_option maxHeartbeats 8000000 in
/-- a zip of two texts of one length, as an argument of dict -/
theorem zipArg {P : Program} {w : World} (zp tin tout ia ib : Addr) (a b : Txt) (ta tb : Tok) (S : ZipSep2 zp tin tout ia ib [ia] [ib]) (hl : a.length = b.length) :
    PairArg P w "zip" zp [zp, tin, tout, ia, ib] [zp, tout, ia, ib] a.length (fun i k v => SgnAt a i k ∧ SgnAt b i v)
      (fun m => IsZip m zp tin tout .none ∧ (∃ x y, IsTupOf2 m tout x y) ∧ ZipTx m zp tin tout ia ib a b ta tb 0) where
  type := fun s ok => ⟨_, ok.1, rfl⟩
  notDict := by decide
  keep := fun m m' ok k => by
    obtain ⟨h1, ⟨x, y, h2⟩, h3⟩ := ok
    exact ⟨k _ _ h1, ⟨x, y, k _ _ h2⟩, h3.keep fun c o _ e => k c o e⟩
  there := fun m ok c hc => by
    obtain ⟨h1, ⟨x, y, h2⟩, ⟨h3, ⟨o1, h4, _⟩, ⟨o2, h5, _⟩⟩⟩ := ok
    simp only [List.mem_cons, List.not_mem_nil, or_false] at hc
    rcases hc with q | q | q | q | q
    · subst q; exact ⟨_, h1⟩
    · subst q; exact ⟨_, h3⟩
    · subst q; exact ⟨_, h2⟩
    · subst q; exact ⟨_, h4⟩
    · subst q; exact ⟨_, h5⟩
  sub := fun c hc => by
    simp only [List.mem_cons, List.not_mem_nil, or_false] at hc ⊢
    rcases hc with q | q | q | q <;> simp [q]
  noKeys := fun A s Q E hA ok fin => getAttrOr_miss_zip ok.1 rfl rfl rfl zip_no_keys (by decide +kernel) hA fin
  iter := fun A s d Q E hA ok hd hn fin => by
    obtain ⟨h1, ⟨x, y, h2⟩, h3⟩ := ok
    simp only [List.mem_cons, List.not_mem_nil, or_false, not_or] at hn
    obtain ⟨d1, d2, d3, d4, d5⟩ := hn
    have la : ∀ {c : Addr} {L : List Addr}, c ∉ L → ∀ {q : Addr}, q ∈ L → q ≠ c := fun h _ hq e => h (e ▸ hq)
    refine wpAny_pyIter_zip h1 (fin zp [zp, tout, ia, ib] (fun i m => ZipTx m zp tin tout ia ib a b ta tb i ∧ ((IsZip m zp tin tout .none ∧ ∃ x y, IsTupOf2 m tout x y) ∨ ∃ T f oT, IsZipHeld m zp tin tout T f ∧ m.get? T = some oT ∧ T ≠ zp ∧ T ≠ ia ∧ T ≠ ib ∧ T ≠ d)) s.heap s.toks ?_
      ⟨h3, .inl ⟨h1, x, y, h2⟩⟩ (fun _ _ e => e) fun c hc => .inl hc)
    refine ⟨?_, ?_, ?_, ?_⟩
    · simp only [List.mem_cons, List.not_mem_nil, or_false, not_or]
      exact ⟨d1, d3, d4, d5⟩
    · rintro i m1 m2 ⟨g1, g2⟩ k
      refine ⟨g1.keep fun c o hc e => k c o ?_ e, ?_⟩
      · rcases hc with q | q | q
        · subst q; exact Ne.symm d2
        · subst q; exact Ne.symm d4
        · subst q; exact Ne.symm d5
      · rcases g2 with ⟨g3, x, y, g4⟩ | ⟨T, f, oT, g3, g4, r1, r2, r3, r4⟩
        · exact .inl ⟨k _ _ (Ne.symm d1) g3, x, y, k _ _ (Ne.symm d3) g4⟩
        · exact .inr ⟨T, f, oT, k _ _ (Ne.symm d1) g3, k _ _ r4 g4, r1, r2, r3, r4⟩
    · rintro i s1 Q1 E1 hi ⟨g1, g2⟩ hds fin1
      have Da := drawTx (P := P) (w := w) (A := A.in1) hA ia a ta
      have Db := drawTx (P := P) (w := w) (A := A.in1) hA ib b tb
      have big : ∀ {c o}, s1.heap.get? c = some o → s1.heap.objs.size ≠ c := fun e => Nat.ne_of_gt (Heap.lt_size e)
      have b1 : s1.heap.objs.size ≠ ia := by obtain ⟨o, e, _⟩ := g1.one; exact big e
      have b2 : s1.heap.objs.size ≠ ib := by obtain ⟨o, e, _⟩ := g1.two; exact big e
      rcases g2 with ⟨g3, x, y, g4⟩ | ⟨T, f, oT, g3, g4, r1, r2, r3, r4⟩
      · refine wpAny_pyNext_zipD2_item S Da Db g3 g1.tup g4 g1.one g1.two hi (by omega) fun u v m' tk hu hv z1 z2 s1' s2' z3 _ k => ?_
        refine fin1 s1.heap.objs.size u v m' tk ⟨hu, hv⟩ (.inl ⟨_, z3, rfl, _, rfl⟩) ⟨⟨k _ _ S.TIz S.TITO S.TIi1 S.TIi2 g1.tup, s1', s2'⟩, .inr ⟨s1.heap.objs.size, false, _, z1, z3, big g3, b1, b2, Nat.ne_of_gt hds⟩⟩ fun c o hc e => ?_
        simp only [List.mem_cons, List.not_mem_nil, or_false, not_or] at hc
        exact k c o hc.1 hc.2.1 hc.2.2.1 hc.2.2.2 e
      · refine pyNext_zipHeld S Da Db g3 g4 g1.tup g1.one g1.two hi (by omega) fun u v m' tk hu hv z1 s1' s2' z3 k => ?_
        refine fin1 s1.heap.objs.size u v m' tk ⟨hu, hv⟩ (.inl ⟨_, z3, rfl, _, rfl⟩) ⟨⟨k _ _ S.TIz S.TIi1 S.TIi2 g1.tup, s1', s2'⟩, .inr ⟨T, true, oT, z1, k _ _ r1 r2 r3 g4, r1, r2, r3, r4⟩⟩ fun c o hc e => ?_
        simp only [List.mem_cons, List.not_mem_nil, or_false, not_or] at hc
        exact k c o hc.1 hc.2.2.1 hc.2.2.2 e
    · rintro s1 Q1 E1 ⟨g1, g2⟩ fin1
      have Da := drawTx (P := P) (w := w) (A := A.in1) hA ia a ta
      have Db := drawTx (P := P) (w := w) (A := A.in1) hA ib b tb
      rcases g2 with ⟨g3, x, y, g4⟩ | ⟨T, f, oT, g3, g4, r1, r2, r3, r4⟩
      · refine wpAny_pyNext_zipD2_end S Da Db g3 g1.tup g4 g1.one g1.two (Nat.le_refl _) (Nat.le_of_eq hl) (.inl rfl) fun m' tk k => fin1 m' tk fun c o hc e => ?_
        simp only [List.mem_cons, List.not_mem_nil, or_false, not_or] at hc
        exact k c o hc.1 hc.2.1 hc.2.2.1 hc.2.2.2 e
      · refine pyNext_zipHeld_end S Da g3 g4 g1.tup g1.one fun m' k => fin1 m' s1.toks fun c o hc e => ?_
        simp only [List.mem_cons, List.not_mem_nil, or_false, not_or] at hc
        exact k c o hc.1 hc.2.2.1 e

/-! ### dict(zip(text, text)) -/
def prsTx (a b : Txt) : List (Key × V) := (a.zip b).map fun q => (Sum.inr (tx [q.1]), V.str (tx [q.2]))
def DzTab (P : Program) (w : World) (a b : Txt) (D : Addr) (i : Nat) (m : Heap) : Prop := ∃ kvs, KV (mergeK [] ((prsTx a b).take i)) kvs ∧ m.DictOf (mixKind P w) D kvs
set_option maxHeartbeats 8000000 in
theorem call_dict_zip {P : Program} {w : World} {A : Around} {B : Value → Shared → Prop} {z : Shared} {zp tin tout ia ib : Addr} {a b : Txt} {ta tb : Tok} {Q : Value → Shared → Prop} (S : ZipSep2 zp tin tout ia ib [ia] [ib]) (hl : a.length = b.length) (hh : A.handled = none) (few : a.length ≤ 1000)
    (ok : IsZip z.heap zp tin tout .none ∧ (∃ x y, IsTupOf2 z.heap tout x y) ∧ ZipTx z.heap zp tin tout ia ib a b ta tb 0)
    (fin : ∀ m' tk kvs, KV (mergeK [] (prsTx a b)) kvs → m'.DictOf (mixKind P w) z.heap.objs.size kvs → (∀ c o, c ∉ [zp, tout, ia, ib] → z.heap.get? c = some o → m'.get? c = some o) → Q (.ref z.heap.objs.size) { z with heap := m', toks := tk }) :
    wpAny (model P w) A (call (.type "dict") [.ref zp]) Q B z := by
  have plen : (prsTx a b).length = a.length := by unfold prsTx; rw [List.length_map, List.length_zip, hl, Nat.min_self]
  refine call_dict_arg (zipArg zp tin tout ia ib a b ta tb S hl) ok fun z1 e1 hdf ok1 => ?_
  subst e1
  refine updateFrom_arg (A := A.in1) (Tab := DzTab P w a b z.heap.objs.size) (zipArg zp tin tout ia ib a b ta tb S hl) .none hh ok1 hdf ⟨[], .nil, Heap.DictOf.new z.heap⟩ (fun i m h => by obtain ⟨_, _, h⟩ := h; exact h.lt_size)
    (fun i m m' L h1 _ h2 k => by obtain ⟨kvs, r, h⟩ := h2; exact ⟨kvs, r, h.at' fun o e => k _ o h1 e⟩) ?_ ?_
  · rintro i k v z2 Q2 B2 hi ⟨⟨c, u, hc, rfl⟩, ⟨d, u', hd, rfl⟩⟩ ⟨kvs, r, h⟩ _ fin2
    have hp : (prsTx a b)[i]? = some (Sum.inr (tx [c]), V.str (tx [d])) := by
      unfold prsTx
      rw [List.getElem?_map, (List.getElem?_zip_eq_some (z := (c, d))).mpr ⟨hc, hd⟩]
      rfl
    have hz : kvs.length ≤ i := by
      have h1 := r.length
      have h2 := length_mergeK ((prsTx a b).take i) []
      rw [List.length_take] at h2
      simp only [List.length_nil] at h2
      omega
    refine wpAny_dictSet_pairs (knd := mixKind P w) (k := Sum.inr (tx [c])) (hsz := by rw [sizeLine_eq]; omega) (kV_is (P := P) (w := w) (k := Sum.inr (tx [c])) ⟨u, rfl⟩) h fun m' h' hs => ?_
    refine fin2 m' _ ⟨_, ?_, h'⟩ hs
    have em : mergeK [] ((prsTx a b).take (i + 1)) = putK (mergeK [] ((prsTx a b).take i)) (Sum.inr (tx [c])) (V.str (tx [d])) := by
      unfold mergeK
      rw [List.take_add_one, hp, List.foldl_append]
      rfl
    rw [em]
    exact r.put (Sum.inr (tx [c])) (y := V.str (tx [d])) ⟨u', rfl⟩
  · rintro m' tk ⟨kvs, r, h⟩ k
    rw [List.take_of_length_le (Nat.le_of_eq plen)] at r
    exact ⟨rfl, fin m' tk kvs r h fun c o hc e => k c o (Nat.ne_of_lt (Heap.lt_size e)) hc (Heap.get?_push_of_some _ e)⟩
def tDz (t : TA) : TE := fun σ H Q => t σ H fun vs H1 => ∃ a b : Txt, vs = [.str (tx a), .str (tx b)] ∧ a.length = b.length ∧ a.length ≤ 1000 ∧ ∀ p, H1 p = none → Q (.ref p) (upd H1 p (.dK (mergeK [] (prsTx a b))))
theorem pe_dz {X : Cx} {e1 e2 : Expr} {t : TA} {p p2 q pos : Pos} (hc : X.calm = true) (hg : Gl X "dict") (hm : X.mg "dict" = none) (hg2 : Gl X "zip") (hm2 : X.mg "zip" = none) (ha : PA X [e1, e2] t)
    (na : starEach [e1, e2] X.env = (false, eval e1 X.env) :: starEach [e2] X.env := by rfl) (hpl : (backTo q (starEach [e2] X.env)).any (·.1) = false := by rfl) : PE X (.Call (.Name "dict" p) [.Call (.Name "zip" p2) [e1, e2] [] q] [] pos) (tDz t) := by
  refine ⟨fun pins z σ H Q I h => ?_⟩
  refine PyProof.Rows.Call_ (ld_blt I hg hm PyProof.Rows.boot_dict ?_)
  refine PyProof.Rows.callWith_type1 (PyProof.Rows.args_cons ?_ rfl) rfl rfl
  refine wpAny_Call_Name_kw (ld_blt I hg2 hm2 PyProof.Rows.boot_zip ?_)
  refine PyProof.Rows.callWith_type1 (thn (ha.run q pins z σ H _ I h) fun us z1 ⟨vs, H1, I1, r1, q1⟩ => ?_) na hpl
  obtain ⟨a, b, rfl, hl, few, fin⟩ := q1
  obtain ⟨u1, u2, rfl, ⟨ta, rfl⟩, ⟨tb, rfl⟩⟩ := vals2 r1
  refine zip_begins2 (begins_text (tx a) ta) (begins_text (tx b) tb) trivial trivial fun m1 y1 y2 y3 y4 y5 y6 k1 => PyProof.Rows.args_nil ?_
  have S : ZipSep2 (z1.heap.objs.size + 4) (z1.heap.objs.size + 2) (z1.heap.objs.size + 3) z1.heap.objs.size (z1.heap.objs.size + 1) [z1.heap.objs.size] [z1.heap.objs.size + 1] := by
    constructor <;> first | omega | (simp only [List.mem_cons, List.not_mem_nil, or_false]; omega) | simp
  have I2 : Inv X pins σ H1 { z1 with heap := m1 } := I1.kept k1
  refine call_dict_zip (z := { z1 with heap := m1 }) S hl (I1.ok.hd hc) few ⟨y1, ⟨_, _, y3⟩, ⟨y2, ⟨_, y4, rfl, rfl⟩, ⟨_, y5, rfl, rfl⟩⟩⟩ fun m2 tk kvs r dd k2 => ?_
  have k3 : ∀ c o, z1.heap.get? c = some o → m2.get? c = some o := fun c o e => by
    refine k2 c o ?_ (k1 c o e)
    have lt := Heap.lt_size e
    simp only [List.mem_cons, List.not_mem_nil, or_false, not_or]
    exact ⟨Nat.ne_of_lt (Nat.lt_of_lt_of_le lt (by omega)), Nat.ne_of_lt (Nat.lt_of_lt_of_le lt (by omega)), Nat.ne_of_lt lt, Nat.ne_of_lt (Nat.lt_of_lt_of_le lt (by omega))⟩
  have hlen : (mergeK [] (prsTx a b)).length ≤ sizeLine := by
    have h1 := length_mergeK (prsTx a b) []
    have h2 : (prsTx a b).length ≤ a.length := by unfold prsTx; rw [List.length_map, List.length_zip]; omega
    rw [sizeLine_eq]
    simp only [List.length_nil] at h1
    omega
  have hbig : (m1.objs.size == sysModules) = false := beq_eq_false_iff_ne.mpr (Nat.ne_of_gt (Nat.lt_of_lt_of_le I1.big (by omega)))
  exact ⟨.ref m1.objs.size, upd H1 m1.objs.size (.dK (mergeK [] (prsTx a b))), I1.laid (t' := tk) k3 (by omega) (show ObjOk X.prog X.w _ _ _ (.dK _) from ⟨hlen, hbig, kvs, r, dd⟩), rfl, fin _ (I1.hok.fresh (by omega))⟩
end Wk

/-! Wk17: dicts: dict(pairs), sorted(dict), d[text]. -/
namespace Wk
open PySem L2

/-- a dict, by what it holds -/
def cdk (kvs : List (Key × V)) : Ct := ⟨fun _ o => o = .dK kvs, fun _ h => h⟩
/-- pairs of a text and a flat value, as a dict's -/
def kvOf {α : Type} [Flat α] (xs : List (Txt × α)) : List (Key × V) := xs.map fun p => (Sum.inr (tx p.1), Flat.toV p.2)
theorem prsTx_of (a b : Txt) : prsTx a b = kvOf ((a.zip b).map fun q => (([q.1] : Txt), ([q.2] : Txt))) := by
  unfold prsTx kvOf
  rw [List.map_map]
  rfl
theorem putK_any (kvs : List (Key × V)) (k : Key) : (kvs.any fun kv => decide (kv.1 = k)) = true ↔ k ∈ kvs.map (·.1) := by
  simp [List.any_eq_true]
theorem putK_old {kvs : List (Key × V)} {k : Key} (h : k ∈ kvs.map (·.1)) (v : V) : (L2.putK kvs k v).map (·.1) = kvs.map (·.1) := by
  unfold L2.putK
  rw [if_pos ((putK_any kvs k).2 h), List.map_map]
  refine List.map_congr_left fun p _ => ?_
  show (if p.1 = k then (p.1, v) else p).1 = p.1
  split <;> rfl
theorem putK_new {kvs : List (Key × V)} {k : Key} (h : k ∉ kvs.map (·.1)) (v : V) : L2.putK kvs k v = kvs ++ [(k, v)] := by
  unfold L2.putK
  rw [if_neg fun q => h ((putK_any kvs k).1 q)]
theorem mergeK_keys : ∀ (ps kvs : List (Key × V)), (kvs.map (·.1)).Nodup → ((mergeK kvs ps).map (·.1)).Nodup ∧ ∀ k, k ∈ (mergeK kvs ps).map (·.1) ↔ k ∈ kvs.map (·.1) ∨ k ∈ ps.map (·.1)
  | [], kvs, h => ⟨h, fun k => by simp [mergeK]⟩
  | p :: ps, kvs, h => by
    have key : ((L2.putK kvs p.1 p.2).map (·.1)).Nodup ∧ ∀ k, k ∈ (L2.putK kvs p.1 p.2).map (·.1) ↔ k ∈ kvs.map (·.1) ∨ k = p.1 := by
      by_cases q : p.1 ∈ kvs.map (·.1)
      · rw [putK_old q]
        exact ⟨h, fun k => ⟨.inl, fun y => y.elim id fun y => y ▸ q⟩⟩
      · rw [putK_new q, List.map_append]
        refine ⟨List.nodup_append.mpr ⟨h, by simp, fun a ha b hb e => q ?_⟩, fun k => by rw [List.mem_append, List.map_cons, List.map_nil, List.mem_singleton]⟩
        have eb : b = p.1 := by simpa using hb
        rw [← eb, ← e]
        exact ha
    obtain ⟨i1, i2⟩ := mergeK_keys ps (L2.putK kvs p.1 p.2) key.1
    refine ⟨i1, fun k => ?_⟩
    show k ∈ (mergeK (L2.putK kvs p.1 p.2) ps).map (·.1) ↔ _
    rw [i2 k, key.2 k, List.map_cons, List.mem_cons, or_assoc]
/-- no key comes twice: nothing is lost -/
theorem mergeK_id : ∀ (ps kvs : List (Key × V)), ((kvs ++ ps).map (·.1)).Nodup → mergeK kvs ps = kvs ++ ps
  | [], kvs, _ => by simp [mergeK]
  | p :: ps, kvs, h => by
    have e : L2.putK kvs p.1 p.2 = kvs ++ [p] := putK_new (fun q => by
      obtain ⟨x, hx, hq⟩ := List.mem_map.mp q
      rw [List.map_append, List.map_cons] at h
      exact (List.nodup_append.mp h).2.2 x.1 (List.mem_map.mpr ⟨x, hx, rfl⟩) p.1 (by simp) hq) p.2
    show mergeK (L2.putK kvs p.1 p.2) ps = _
    rw [e, mergeK_id ps (kvs ++ [p]) (by rw [List.append_assoc]; exact h), List.append_assoc]
    rfl

section
variable {ι : Type} {X : ι → Cx} {S : Sit} {sl sl1 sl2 sl3 : List Slot} {α β : Type} [Rep β] {b : β} {e e1 e2 : Expr} {pos p1 p2 p3 : Pos} {x : Str}
/-- dict(zip(text, text)) -/
theorem x_dz {a c : Txt} (f : Fam X S) (h1 : E X e1 sl sl1 a) (h2 : E X e2 sl1 sl2 c) (hl : a.length = c.length) (few : a.length ≤ 1000) (hg : ∀ i, Gl (X i) "dict") (hm : S.mg "dict" = none) (hg2 : ∀ i, Gl (X i) "zip") (hm2 : S.mg "zip" = none)
    (na : ∀ i, starEach [e1, e2] (X i).env = (false, eval e1 (X i).env) :: starEach [e2] (X i).env := by intro _; rfl) (nb : ∀ i, starEach [e2] (X i).env = (false, eval e2 (X i).env) :: starEach [] (X i).env := by intro _; rfl)
    (hpl : ∀ i, (backTo p3 (starEach [e2] (X i).env)).any (·.1) = false := by intro _; rfl) : EN X (.Call (.Name "dict" p1) [.Call (.Name "zip" p2) [e1, e2] [] p3] [] pos) sl sl2 (cdk (mergeK [] (prsTx a c))) := by
  obtain ⟨t, a1, a2⟩ := a_v h1 (a_v h2 a_nil nb) na
  refine ⟨tDz t, fun i => pe_dz (f.calm i) (hg i) (by rw [f.mg i]; exact hm) (hg2 i) (by rw [f.mg i]; exact hm2) (a1 i) (na i) (hpl i), a2.1, fun σ F H r Q q => a2.2 σ F H r _ fun vs F1 H1 s1 r1 hv => ?_⟩
  obtain ⟨v, w, rfl, y1, y2⟩ := args2 hv
  exact ⟨a, c, by rw [show v = _ from y1, show w = _ from y2]; rfl, hl, few, fun p hp => new_end (sl := sl) q s1 r1 rfl p hp⟩
theorem argsN {σ : L2.St} {H0 F H : Hp} {vs : List V} {c : Ct} (h : Args σ H0 F H vs [.n c]) : ∃ p, vs = [.ref p] ∧ H0 p = none ∧ Hold F H p c := by
  match vs, h with
  | [v], h =>
    obtain ⟨p, rfl, h1, h2⟩ := h.1
    exact ⟨p, rfl, h1, h2⟩
/-- dict(list of pairs), keys being texts -/
theorem x_dictP [Flat α] {xs : List (Txt × α)} (f : Fam X S) (h : E X e sl sl1 xs) (hg : ∀ i, Gl (X i) "dict") (hm : S.mg "dict" = none) (he : ∀ i, starEach [e] (X i).env = (false, eval e (X i).env) :: starEach [] (X i).env := by intro _; rfl) :
    EN X (.Call (.Name "dict" p1) [e] [] pos) sl sl1 (cdk (mergeK [] (kvOf xs))) :=
  x_callTyN f (r := fun xs H Q => ∃ (a : Addr) (ps : List Addr) (kvs : List (Key × V)), xs = [.ref a] ∧ SqL S.K H a (ps.map V.ref) ∧ Paired (fun p kv => SqT S.K H p [kV kv.1, kv.2]) ps kvs ∧ ∀ p, H p = none → Q (.ref p) (upd H p (.dK (mergeK [] kvs)))) (fun i => by
    have y := call_dictP (X := X i) (f.calm i)
    rw [f.K i] at y
    exact y) (a_v h a_nil he) (fun σ F H H0 vs g hA Q q => by
    obtain ⟨v, rfl, a, ws, rfl, ha, hr⟩ := args1 hA
    have key : ∃ ps : List Addr, ws = ps.map V.ref ∧ Paired (fun p (kv : Key × V) => SqT S.K H p [kV kv.1, kv.2]) ps (kvOf xs) := by
      clear ha hA h q
      revert hr
      induction ws generalizing xs with
      | nil => intro hr; cases xs with
        | nil => exact ⟨[], rfl, .nil⟩
        | cons _ _ => exact hr.elim
      | cons y ws ih => intro hr; cases xs with
        | nil => exact hr.elim
        | cons p xs =>
          obtain ⟨⟨t, u, v, rfl, ht, hu, hv⟩, hr⟩ := hr
          obtain ⟨ps, e1, e2⟩ := ih hr
          refine ⟨t :: ps, by rw [e1]; rfl, .cons ?_ e2⟩
          have eu : u = V.str (tx p.1) := hu
          have ev : v = Flat.toV p.2 := hv
          subst eu
          subst ev
          exact SqT.of (g.sub _ _ ht)
    obtain ⟨ps, rfl, pp⟩ := key
    exact ⟨a, ps, kvOf xs, rfl, SqL.of (g.sub _ _ ha), pp, fun p hp => q _ rfl p hp⟩) hg hm PyProof.Rows.boot_dict (he := he)
/-- sorted(a new dict), the keys being signs -/
theorem x_sortedD {kvs : List (Key × V)} {l : Txt} (f : Fam X S) (h : EN X e sl sl1 (cdk kvs)) (hd : (kvs.map (·.1)).Nodup) (hk : ∀ k, k ∈ kvs.map (·.1) ↔ ∃ c ∈ l, k = Sum.inr (tx [c])) (few : kvs.length < 64) (hg : ∀ i, Gl (X i) "sorted") (hm : S.mg "sorted" = none)
    (he : ∀ i, starEach [e] (X i).env = (false, eval e (X i).env) :: starEach [] (X i).env := by intro _; rfl) : EN X (.Call (.Name "sorted" p1) [e] [] pos) sl sl1 (cl ((ups l).map fun c => ([c] : Txt))) :=
  x_callBN f (fun i => call_sortedD (f.calm i)) (a_n h a_nil he) (fun σ F H H0 vs g hA Q q => by
    obtain ⟨p, rfl, _, fp, o, ho, hc⟩ := argsN hA
    have e : o = .dK kvs := hc
    subst e
    have key : ∃ ks : List Str, kvs.map (·.1) = ks.map Sum.inr := by
      have hall : ∀ k ∈ kvs.map (·.1), ∃ y : Str, k = Sum.inr y := fun k h => by
        obtain ⟨c, _, e⟩ := (hk k).1 h
        exact ⟨_, e⟩
      generalize kvs.map (·.1) = L at hall
      induction L with
      | nil => exact ⟨[], rfl⟩
      | cons k L ih =>
        obtain ⟨y, rfl⟩ := hall k (by simp)
        obtain ⟨ys, e⟩ := ih fun k h => hall k (List.mem_cons_of_mem _ h)
        exact ⟨y :: ys, by rw [e]; rfl⟩
    obtain ⟨ks, ek⟩ := key
    have el : ks.length = kvs.length := by
      have := congrArg List.length ek
      simpa using this.symm
    refine ⟨p, kvs, ks, rfl, .inl ho, ek, by omega, fun ys p2 pm hs h2 => ?_⟩
    have inj : Function.Injective (Sum.inr : Str → Key) := fun a b h => by injection h
    have e2 := sorted_signs (l := l) hs (pm.nodup_iff.mpr (by
      rw [ek] at hd
      exact (List.pairwise_map.mp hd).imp fun h e => h (by rw [e]))) fun y => by
      rw [pm.mem_iff]
      have y1 := hk (Sum.inr y)
      rw [ek, List.mem_map] at y1
      constructor
      · intro hy
        obtain ⟨c, h1, h2⟩ := y1.1 ⟨y, hy, rfl⟩
        exact ⟨c, h1, inj h2⟩
      · rintro ⟨c, h1, h2⟩
        obtain ⟨y2, h3, h4⟩ := y1.2 ⟨c, h1, by rw [h2]⟩
        rw [← inj h4]
        exact h3
    refine q _ ⟨_, rfl, ?_⟩ p2 h2
    rw [Reps.flat, e2, List.map_map, List.map_map]
    rfl) hg hm PyProof.Rows.boot_sorted (he := he)
/-- d[text], d being a slot's -/
theorem x_dget {kvs : List (Key × V)} {k : Txt} {v : V} (f : Fam X S) (j : Nat) (hN : S.N[j]? = some x) (hv : ∀ i, Vis (X i).env.scope x) (hb : E X e2 sl sl1 k) (hj : Holds sl1 j (cdk kvs)) (hj0 : Holds sl j (cdk kvs)) (hi : valV kvs (Sum.inr (tx k)) = some v) (hr : ∀ F, Rep.rep F v b) (hs : NoSl e2 := by intro _ _; rfl)
    (hd : (x == ("__debug__" : Str)) = false := by decide) (hcd : (x == ("__classdict__" : Str)) = false := by decide) : E X (.Subscript (.Name x p1) e2 pos) sl sl1 b := by
  obtain ⟨tb, b1, b2⟩ := hb
  refine ⟨_, fun i => pe_dget (by have := (f.room i).un; omega) (pe_var (i := j) (by rw [f.N i]; exact hN) (hv i) hd hcd) (b1 i) hs, b2.1, fun σ F H r Q q => ?_⟩
  obtain ⟨s, h1, h2⟩ := hj0.ex
  obtain ⟨p, e1, _, _, _⟩ := r.lend h1 h2
  refine ⟨.ref p, e1, b2.2 σ F H r _ fun y F1 H1 s1 r1 hy => ?_⟩
  obtain ⟨p', o, e, hp, ho, fp⟩ := slot_read r1 hj e1
  have eo : o = .dK kvs := ho
  subst eo
  refine ⟨p', v, e, ?_, q v F1 H1 s1 r1 (hr F1)⟩
  rw [show y = _ from hy]
  have := DGet.k (k := Sum.inr (tx k)) hp
  rw [hi] at this
  exact this
end
end Wk

/-! Wk18: enumerate(text). -/
namespace Wk
open PySem L2

/-- a text, each sign in a new pair with its place -/
def ItEt (l : Txt) : It :=
  ⟨fun i _ => i < l.length, fun i H v H' => ∃ T c, v = .ref T ∧ H T = none ∧ H' = upd H T (.tup [.int (i : Nat), .str (tx [c])]) ∧ l[i]? = some c, fun i _ => l.length ≤ i⟩
theorem walk_et (l : Txt) : Walk (ItEt l) l.length (fun _ => True) (fun i H v H' => (ItEt l).yld i H v H') :=
  ⟨fun _ _ h _ => h, fun _ _ => Nat.le_refl _, fun _ _ _ _ _ _ y => y⟩
set_option maxHeartbeats 8000000 in
theorem turn_et {P : Program} {w : World} {K : PySem.W.Frag} {elts : List Expr} {kk : Nat} {tpos : Pos} (l : Txt) (u : Tok) (en it : Addr) :
    Turn P w K (.Tuple elts kk tpos) (ItEt l) [en, it] en (fun i m => (i ≤ l.length ∧ ∃ old, IsEnum m en it ((i : Nat) : Int) old) ∧ m.IsStrIter it (strIterType (tx l)) (tx l) u i ∧ en ≠ it) where
  mem := List.mem_cons_self ..
  obj := fun i m st b hb => by
    obtain ⟨⟨_, old, h1⟩, ⟨o, h2, _, h3⟩, _⟩ := st
    rcases List.mem_cons.mp hb with y | y
    · subst y
      exact ⟨_, h1, fun v q => nomatch q⟩
    · rw [List.mem_singleton.mp y]
      exact ⟨o, h2, fun v q => by rw [h3] at q; cases q⟩
  keep := fun i m m' st k => by
    obtain ⟨⟨hi, old, h1⟩, ⟨o, h2, r⟩, h3⟩ := st
    exact ⟨⟨hi, old, k en (by simp) _ h1⟩, ⟨o, k it (by simp) _ h2, r⟩, h3⟩
  item := by
    intro X eP eW eK calm i pins z σ H B I hf st hg
    subst eP eW eK
    obtain ⟨⟨_, old, h1⟩, h2, h3⟩ := st
    have hg' : i < l.length := hg
    have D := drawTx (P := X.prog) (w := X.w) (A := X.A.in1) (I.ok.hd calm) it l u
    have len1 : en < z.heap.objs.size := Heap.lt_size h1
    have len2 : it < z.heap.objs.size := by obtain ⟨_, y, _⟩ := h2; exact Heap.lt_size y
    refine wpAny_pyNext_enum_itemD D h1 h2 hg' h3 (by simpa using h3) fun x m1 tk hx ho st1 hT hsz k1 => ?_
    obtain ⟨c, u2, hc, rfl⟩ := hx
    refine ⟨_, rfl, wpAny_letOwnedTupleGo_enum (s := { z with heap := m1, toks := tk + 1 }) ho fun m2 he sb => ?_⟩
    have hT2 : m2.get? z.heap.objs.size = some { cls := .type "tuple", data := .seq #[.int i tk, .str (tx [c]) u2] } := (sb.2 _ (Nat.ne_of_gt len1)).trans hT
    have nw : ObjOk X.prog X.w (upd H z.heap.objs.size (.tup [.int (i : Nat), .str (tx [c])])) m2 z.heap.objs.size (.tup [.int (i : Nat), .str (tx [c])]) :=
      ⟨by show 2 ≤ sizeLine; decide, [.int i tk, .str (tx [c]) u2], .cons ⟨_, rfl⟩ (.cons ⟨_, rfl⟩ .nil), ⟨_, hT2, rfl, _, rfl⟩⟩
    have J : Inv X pins σ (upd H z.heap.objs.size (.tup [.int (i : Nat), .str (tx [c])])) { z with heap := m2, toks := tk + 1 } :=
      I.turnedNew (ch := [en, it]) (fun b o hb e => (sb.2 b fun y => hb (by simp [y])).trans (k1 b o (fun y => hb (by simp [y])) (fun y => hb (by simp [y])) e)) hf (Nat.le_refl _) nw
    refine ⟨.ref z.heap.objs.size, _, J, rfl, ⟨_, c, rfl, I.hok.fresh (Nat.le_refl _), rfl, hc⟩, ⟨⟨hg', .str (tx [c]) u2, ?_⟩, ?_, h3⟩, fun b hb => ?_⟩
    · rw [show ((i + 1 : Nat) : Int) = (i : Int) + 1 by omega]
      exact he
    · obtain ⟨o, e, r⟩ := st1
      exact ⟨o, (sb.2 it (Ne.symm h3)).trans e, r⟩
    · have hb2 : b < z.heap.objs.size := by
        rcases List.mem_cons.mp hb with y | y
        · rw [y]; exact len1
        · rw [List.mem_singleton.mp y]; exact len2
      rw [upd_ne (Nat.ne_of_lt hb2)]
      exact (hf b hb).1
  done := by
    intro X eP eW eK calm i pins z σ H B I hf st hg
    subst eP eW eK
    obtain ⟨⟨hi, old, h1⟩, h2, h3⟩ := st
    have hg' : l.length ≤ i := hg
    have ei : i = l.length := by omega
    subst ei
    obtain ⟨f0, f1, f2, f3, f4, f5⟩ := hf it (by simp)
    exact wpAny_pyNext_enum_endD (drawTx (P := X.prog) (w := X.w) (A := X.A.in1) (I.ok.hd calm) it l u) h1 h2 fun m' k => ⟨rfl, I.turned (t' := z.toks) (fun b o hb e => k b o hb e) f0 f1 f3 f4 f5⟩
  self := fun A i z Q B st h => let ⟨⟨_, _, e⟩, _⟩ := st; wpAny_pyIter_enum e h
def iEt (ta : TA) : TI := fun σ H R => ta σ H fun vs H1 => ∃ l : Txt, vs = [.str (tx l)] ∧ R (ItEt l) H1
theorem pi_et {X : Cx} {e : Expr} {ta : TA} {p pos tpos : Pos} {elts : List Expr} {kk : Nat} (hg : Gl X "enumerate") (hm : X.mg "enumerate" = none) (ha : PA X [e] ta) (hs : starEach [e] X.env = [(false, eval e X.env)] := by rfl) :
    PI X (.Tuple elts kk tpos) (.Call (.Name "enumerate" p) [e] [] pos) (iEt ta) := by
  refine ⟨fun pins z σ H R I h => ?_⟩
  refine PyProof.Rows.Call_ (ld_blt I hg hm PyProof.Rows.boot_enumerate (PyProof.Rows.callWith_type1 (thn (ha.run pos pins z σ H _ I h) fun us z1 ⟨vs, H1, I1, r1, q1⟩ => ?_) hs rfl))
  obtain ⟨l, rfl, q⟩ := q1
  obtain ⟨u, rfl, ⟨t, rfl⟩⟩ := Vals.one r1
  refine call_enumerate_str fun m' he hit hsz k => wpAny_pyIter_enum he ?_
  refine ⟨z1.heap.objs.size + 1, [z1.heap.objs.size + 1, z1.heap.objs.size], _, _, H1, rfl, I1.kept (t' := z1.toks) k, turn_et l t (z1.heap.objs.size + 1) z1.heap.objs.size, ⟨⟨Nat.zero_le _, .none, he⟩, hit, Nat.succ_ne_self _⟩, fun b hb => ?_, q⟩
  have hle : z1.heap.objs.size ≤ b := by
    rcases List.mem_cons.mp hb with y | y
    · rw [y]; exact Nat.le_succ _
    · rw [List.mem_singleton.mp y]; exact Nat.le_refl _
  exact I1.fpOk hle (I1.hok.fresh hle)

section
variable {ι : Type} {X : ι → Cx} {S : Sit} {sl sl1 : List Slot} {e : Expr} {pos p1 tpos : Pos} {elts : List Expr} {kk : Nat}
/-- the signs of a text, numbered -/
def numd (l : Txt) : List (Int × Txt) := l.zipIdx.map fun p => ((p.2 : Int), ([p.1] : Txt))
theorem numd_len (l : Txt) : (numd l).length = l.length := by unfold numd; simp
theorem numd_get {l : Txt} {i c : Nat} (h : l[i]? = some c) : (numd l)[i]? = some ((i : Int), [c]) := by
  unfold numd
  rw [List.getElem?_map, List.getElem?_zipIdx, h]
  simp
theorem src_et {l : Txt} (f : Fam X S) (h : E X e sl sl1 l) (hg : ∀ i, Gl (X i) "enumerate") (hm : S.mg "enumerate" = none) (ha : ∀ i, starEach [e] (X i).env = [(false, eval e (X i).env)] := by intro _; rfl)
    (hs : ∀ i x, foldedSetIterable (.Call (.Name "enumerate" p1) [e] [] pos) (X i).env x = pure x := by intro _ _; rfl) : Src X (.Tuple elts kk tpos) (.Call (.Name "enumerate" p1) [e] [] pos) sl sl1 (numd l) := by
  obtain ⟨ta, h1, h2⟩ := a_v h a_nil ha
  refine ⟨iEt ta, fun i => pi_et (hg i) (by rw [f.mg i]; exact hm) (h1 i) (ha i), hs, h2.1, fun σ F H r R q => h2.2 σ F H r _ fun vs F1 H1 s1 r1 hv => ?_⟩
  obtain ⟨v, rfl, hv2⟩ := args1 hv
  refine ⟨l, by rw [show v = _ from hv2]; rfl, q _ F1 H1 s1 r1 (Wlk.of (walk_et l) (numd_len l).symm (fun _ _ _ _ => trivial) ?_)⟩
  intro i H2 x H3 F2 a ha s2 s3 y
  obtain ⟨T, c, rfl, hT, rfl, hc⟩ := y
  rw [numd_get hc] at ha
  cases ha
  have fT : F2 T = none := by
    cases q : F2 T with
    | none => rfl
    | some o =>
      rw [s3 T o q] at hT
      cases hT
  refine ⟨upd F2 T (.tup [.int (i : Nat), .str (tx [c])]), stp_frz (stp_new (os := []) hT) hT fT, fun b o h => ?_, ⟨T, _, _, rfl, upd_same, rfl, rfl⟩⟩
  by_cases e : b = T
  · subst e
    rw [upd_same] at h ⊢
    exact h
  · rw [upd_ne e] at h ⊢
    exact s3 b o h
end
end Wk

/-! Wk19: text[::-1]; == and != of data; list.index; sorted pairs. -/
namespace Wk
open PySem L2

/-! ### text[::-1] -/
theorem fm_congr {γ δ : Type} {f g : γ → Option δ} : ∀ {l : List γ}, (∀ x ∈ l, f x = g x) → l.filterMap f = l.filterMap g
  | [], _ => rfl
  | x :: l, h => by
    rw [List.filterMap_cons, List.filterMap_cons, h x (by simp), fm_congr (l := l) fun y hy => h y (List.mem_cons_of_mem _ hy)]
theorem rev_places (l : Txt) : ((Builtin.Str.strSliceIndices none none (-1) l.length).filterMap ((tx l).cps[·]?)) = l.reverse := by
  have e : Builtin.Str.strSliceIndices none none (-1) l.length = (List.range l.length).map fun k => l.length - 1 - k := by
    show sliceRange ((l.length : Int) - 1) (-1) (-1) = _
    unfold sliceRange
    rw [if_neg (by decide)]
    have hc : (if (l.length : Int) - 1 > -1 then ((l.length : Int) - 1 - -1 - -1 - 1) / - -1 else 0).toNat = l.length := by
      split
      · show (((l.length : Int) - 1 - -1 - -1 - 1) / 1).toNat = l.length
        rw [Int.ediv_one]
        omega
      · omega
    dsimp only
    rw [hc]
    refine List.map_congr_left fun k hk => ?_
    have := List.mem_range.mp hk
    omega
  rw [e]
  apply List.ext_getElem?
  intro i
  have e2 : ((List.range l.length).map fun k => l.length - 1 - k).filterMap ((tx l).cps[·]?) = (List.range l.length).filterMap fun k => l[l.length - 1 - k]? := by
    rw [List.filterMap_map]
    refine fm_congr fun k _ => ?_
    show (tx l).cps[l.length - 1 - k]? = _
    rw [← Array.getElem?_toList, tx_cps]
  rw [e2]
  have e3 : (List.range l.length).filterMap (fun k => l[l.length - 1 - k]?) = (List.range l.length).map fun k => l.getD (l.length - 1 - k) 0 := by
    rw [← List.filterMap_eq_map]
    refine fm_congr fun k hk => ?_
    have := List.mem_range.mp hk
    have lt : l.length - 1 - k < l.length := by omega
    simp [List.getElem?_eq_getElem lt]
  rw [e3, List.getElem?_map]
  by_cases h : i < l.length
  · rw [List.getElem?_range h, List.getElem?_reverse h]
    have lt : l.length - 1 - i < l.length := by omega
    simp [List.getElem?_eq_getElem lt]
  · rw [List.getElem?_eq_none (by simpa using h), List.getElem?_eq_none (by simpa using h)]
    rfl
def tRevS (te : TE) : TE := fun σ H Q => te σ H fun x H1 => ∃ l : Txt, x = .str (tx l) ∧ l.length ≤ 16777216 ∧ Q (.str (tx l.reverse)) H1
theorem pe_revS {X : Cx} {e : Expr} {te : TE} {k : Nat} {p1 p2 p3 pos : Pos} (he : PE X e te) : PE X (.Subscript e (.Slice none none (some (.UnaryOp .USub (.Constant (.int 1) k p1) p2)) p3) pos) (tRevS te) := by
  refine ⟨fun pins z σ H Q I h => ?_⟩
  refine PyProof.Rows.Subscript_ (thn (he.run pins z σ H _ I h) fun v z1 ⟨x, H1, I1, r1, q1⟩ => ?_)
  obtain ⟨l, rfl, hl, q⟩ := q1
  obtain ⟨u, rfl⟩ := r1
  have st : PO X (some (.UnaryOp .USub (.Constant (.int 1) k p1) p2)) (tPart (tUn (rU fun i => .int (-i)) (tC (.int 1)))) := po_some (pe_un un_neg pe_int)
  refine wpAny_Slice (thn (po_none.run pins z1 σ H1 (fun o H2 => o = none ∧ H2 = H1) I1 ⟨rfl, rfl⟩) fun vl z2 ⟨o1, H2, I2, pl, el, e2⟩ => ?_)
  subst el e2
  refine thn (po_none.run pins z2 σ H2 (fun o H3 => o = none ∧ H3 = H2) I2 ⟨rfl, rfl⟩) fun vu z3 ⟨o2, H3, I3, pu, eu, e3⟩ => ?_
  subst eu e3
  refine thn (st.run pins z3 σ H3 (fun o H4 => o = some (-1) ∧ H4 = H3) I3 ⟨1, rfl, -1, rfl, rfl, rfl⟩) fun vs z4 ⟨o, H4, I4, ps, eo, e4⟩ => ?_
  subst eo e4
  have I5 : Inv X pins σ H4 { z4 with heap := z4.heap.push { cls := .type "slice", data := .fields #[vl, vu, vs] } } := I4.kept (t' := z4.toks) fun b ob y => Heap.get?_push_of_some _ y
  obtain ⟨pa, rfl, ea⟩ := IsPart.raw pl
  obtain ⟨pb, rfl, eb⟩ := IsPart.raw pu
  obtain ⟨pc, rfl, ec⟩ := IsPart.raw ps
  show wpAny (model X.prog X.w) X.A (PyProof.Rows.subscriptTail e (.Slice none none (some (.UnaryOp .USub (.Constant (.int 1) k p1) p2)) p3) (.str (tx l) u) (.ref z4.heap.objs.size)) (EP X pins σ Q) X.xe { z4 with heap := z4.heap.push { cls := .type "slice", data := .fields #[partValue pa, partValue pb, partValue pc] } }
  refine PyProof.Rows.tail_any (ops := [.str (tx l) u, .ref z4.heap.objs.size]) (typeIs_str _ _ _) (PySem.F.slot_str_getitem.lookup) ?_ (by with_unfolding_all rfl)
  refine wpAny_getItem_str_slice (l := pa) (u := pb) (st := pc) ⟨_, Heap.get?_push_size _ rfl, rfl, rfl⟩ (by rw [ec]; rfl) ?_
  have hlen : (tx l).length = l.length := tx_len l
  show Made.post (if (((pc.map (·.1)).getD 1) == 1 && (Builtin.Str.strSliceIndices (pa.map (·.1)) (pb.map (·.1)) ((pc.map (·.1)).getD 1) (tx l).length).length == (tx l).length) = true then Made.val (.str (tx l) u)
    else Made.str ⟨((Builtin.Str.strSliceIndices (pa.map (·.1)) (pb.map (·.1)) ((pc.map (·.1)).getD 1) (tx l).length).filterMap ((tx l).cps[·]?)).toArray⟩) (EP X pins σ Q) _
  rw [ea, eb, ec]
  have hneg : ((((some (-1) : Option Int).getD 1) == 1 && (Builtin.Str.strSliceIndices none none ((some (-1) : Option Int).getD 1) (tx l).length).length == (tx l).length)) = false := rfl
  rw [hneg, if_neg Bool.false_ne_true]
  show Made.post (Made.str ⟨((Builtin.Str.strSliceIndices none none (-1) (tx l).length).filterMap ((tx l).cps[·]?)).toArray⟩) (EP X pins σ Q) _
  rw [hlen, rev_places]
  exact ⟨by show (tx l.reverse).length ≤ _; rw [tx_len, List.length_reverse, sizeLine_eq]; exact hl, .str (tx l.reverse), H4, I5.tok _, ⟨_, rfl⟩, q⟩
section
variable {ι : Type} {X : ι → Cx} {S : Sit} {sl sl1 sl2 sl3 : List Slot} {α β : Type} [Rep α] [Rep β] {a b : α} {e e1 e2 : Expr} {pos p1 p2 p3 apos cpos : Pos} {x : Str}
theorem x_revS {l : Txt} {k : Nat} (h : E X e sl sl1 l) (hl : l.length ≤ 16777216) : E X (.Subscript e (.Slice none none (some (.UnaryOp .USub (.Constant (.int 1) k p1) p2)) p3) pos) sl sl1 (l.reverse : Txt) := by
  obtain ⟨te, a1, a2⟩ := h
  exact ⟨tRevS te, fun i => pe_revS (a1 i), a2.1, fun σ F H r Q q => a2.2 σ F H r _ fun v F1 H1 s1 r1 hv => ⟨l, hv, hl, q _ F1 H1 s1 r1 rfl⟩⟩

/-! ### == and != of data -/
class Dta (α : Type) [Rep α] where
  pd : α → PyData
  dp : ∀ {K : PySem.W.Frag} {F H : Hp} {v : V} {a : α}, Same F H → Rep.rep F v a → Dp K H v (pd a)
  inj : ∀ {a b : α}, PyData.eqv (pd a) (pd b) = true ↔ a = b
end
instance : Dta Int := ⟨.int, fun _ h => by cases h; exact .int _, by simp [PyData.eqv]⟩
instance : Dta Bool := ⟨.bool, fun _ h => by cases h; exact .bl _, by simp [PyData.eqv]⟩
instance : Dta Txt := ⟨fun l => .str (tx l), fun _ h => by cases h; exact .str _, fun {a b} => by
  show (tx a == tx b) = true ↔ a = b
  rw [beq_iff_eq]
  exact ⟨tx_inj, fun h => by rw [h]⟩⟩
instance : Dta Unit := ⟨fun _ => .none, fun _ h => by cases h; exact .non, by simp [PyData.eqv]⟩
section
variable {α β : Type} [Rep α] [Rep β]
theorem dpAll [Dta α] {K : PySem.W.Frag} {F H : Hp} (s : Same F H) : ∀ {vs : List V} {as : List α}, Reps F vs as → DpAll K H vs (as.map Dta.pd)
  | [], [], _ => .nil
  | _ :: _, _ :: _, h => .cons (Dta.dp s h.1) (dpAll s h.2)
theorem eqvAll_iff [Dta α] : ∀ {as bs : List α}, PyData.eqvAll (as.map Dta.pd) (bs.map Dta.pd) = true ↔ as = bs
  | [], [] => by simp [PyData.eqvAll]
  | [], _ :: _ => by simp [PyData.eqvAll]
  | _ :: _, [] => by simp [PyData.eqvAll]
  | a :: as, b :: bs => by
    rw [List.map_cons, List.map_cons]
    simp only [PyData.eqvAll, Bool.and_eq_true, List.cons.injEq]
    rw [Dta.inj, eqvAll_iff (as := as)]
instance [Dta α] : Dta (List α) := ⟨fun as => .list (as.map Dta.pd), fun {K F H v a} s h => by
  obtain ⟨p, vs, rfl, h2, h3⟩ := h
  exact .lst (SqL.of (s _ _ h2)) (dpAll s h3), fun {a b} => by
  show PyData.eqv (.list _) (.list _) = true ↔ _
  simp only [PyData.eqv]
  exact eqvAll_iff⟩
theorem tup_eq {a b : Tup α} : a = b ↔ a.xs = b.xs := ⟨fun h => by rw [h], fun h => by cases a; cases b; simp at h; rw [h]⟩
instance [Dta α] : Dta (Tup α) := ⟨fun as => .tuple (as.xs.map Dta.pd), fun {K F H v a} s h => by
  obtain ⟨p, vs, rfl, h2, h3⟩ := h
  exact .tup (SqT.of (s _ _ h2)) (dpAll s h3), fun {a b} => by
  rw [tup_eq]
  show PyData.eqv (.tuple _) (.tuple _) = true ↔ _
  simp only [PyData.eqv]
  exact eqvAll_iff⟩
instance [Dta α] [Dta β] : Dta (α × β) := ⟨fun p => .tuple [Dta.pd p.1, Dta.pd p.2], fun {K F H v a} s h => by
  obtain ⟨p, x, y, rfl, h2, h3, h4⟩ := h
  exact .tup (SqT.of (s _ _ h2)) (.cons (Dta.dp s h3) (.cons (Dta.dp s h4) .nil)), fun {a b} => by
  simp only [PyData.eqv, PyData.eqvAll, Bool.and_true, Bool.and_eq_true]
  rw [Dta.inj, Dta.inj]
  exact ⟨fun h => Prod.ext h.1 h.2, fun h => by rw [h]; exact ⟨rfl, rfl⟩⟩⟩
end
section
variable {ι : Type} {X : ι → Cx} {S : Sit} {sl sl1 sl2 sl3 : List Slot} {α β : Type} [Rep α] [Rep β] {a b : α} {e e1 e2 : Expr} {pos p1 p2 p3 apos cpos : Pos} {x : Str}
abbrev Fine [Dta α] (a : α) : Prop := SeqAt.shaped (Dta.pd a) = true
theorem dta_eqv [Dta α] [DecidableEq α] : PyData.eqv (Dta.pd a) (Dta.pd b) = decide (a = b) := by
  rw [Bool.eq_iff_iff, decide_eq_true_eq]
  exact Dta.inj
theorem t_eqD [Dta α] [DecidableEq α] (f : Fam X S) (ha : E X e1 sl sl1 a) (hb : E X e2 sl1 sl2 b) (fa : Fine a) (fb : Fine b) (hm : behindInMarks .Eq e2 = false := by rfl) : T X (.Compare e1 [.Eq] [e2] pos) sl sl2 (decide (a = b)) :=
  t_cmp f (r := rEqD S.K) (fun i => by
    have y := op_eqD (X := X i) (by have := (f.room i).un; omega)
    rw [f.K i] at y
    exact y) ha hb hm fun F H x y sm hx hy Q q => ⟨_, _, Dta.dp sm hx, Dta.dp sm hy, fa, fb, by rw [dta_eqv]; exact q⟩
theorem t_neD [Dta α] [DecidableEq α] (f : Fam X S) (ha : E X e1 sl sl1 a) (hb : E X e2 sl1 sl2 b) (fa : Fine a) (fb : Fine b) (hm : behindInMarks .NotEq e2 = false := by rfl) : T X (.Compare e1 [.NotEq] [e2] pos) sl sl2 (!decide (a = b)) :=
  t_cmp f (r := rNeD S.K) (fun i => by
    have y := op_neD (X := X i) (by have := (f.room i).un; omega)
    rw [f.K i] at y
    exact y) ha hb hm fun F H x y sm hx hy Q q => ⟨_, _, Dta.dp sm hx, Dta.dp sm hy, fa, fb, by rw [dta_eqv]; exact q⟩
theorem x_eqD [Dta α] [DecidableEq α] (f : Fam X S) (ha : E X e1 sl sl1 a) (hb : E X e2 sl1 sl2 b) (fa : Fine a) (fb : Fine b) (hm : behindInMarks .Eq e2 = false := by rfl) : E X (.Compare e1 [.Eq] [e2] pos) sl sl2 (decide (a = b)) :=
  x_cmp f (r := rEqD S.K) (fun i => by
    have y := op_eqD (X := X i) (by have := (f.room i).un; omega)
    rw [f.K i] at y
    exact y) ha hb hm fun F H x y sm hx hy Q q => ⟨_, _, Dta.dp sm hx, Dta.dp sm hy, fa, fb, by rw [dta_eqv]; exact q⟩
/-- signs below 128 -/
def Low (l : Txt) : Prop := l.all (· < 128) = true
theorem fine_str {l : Txt} (h : Low l) : (PyData.str (tx l)).canLay0 = true := by
  show (tx l).cps.all (· < 0x110000) = true
  unfold Low at h
  rw [List.all_eq_true] at h
  rw [← Array.all_toList, tx_cps, List.all_eq_true]
  intro c hc
  have := h c hc
  simp at this ⊢
  omega
theorem fine_strs {ls : List Txt} (h : ∀ l ∈ ls, Low l) : Fine ls := by
  have e1 : ∀ ls : List Txt, (∀ l ∈ ls, Low l) → PyData.canLayAll0 (ls.map Dta.pd) = true ∧ PyData.depthAll (ls.map Dta.pd) = 0 := by
    intro ls
    induction ls with
    | nil => intro _; exact ⟨rfl, rfl⟩
    | cons l ls ih =>
      intro h
      obtain ⟨i1, i2⟩ := ih fun l hl => h l (List.mem_cons_of_mem _ hl)
      constructor
      · show ((PyData.str (tx l)).canLay0 && PyData.canLayAll0 (ls.map Dta.pd)) = true
        rw [fine_str (h l (by simp)), i1]
        rfl
      · show max 0 (PyData.depthAll (ls.map Dta.pd)) = 0
        rw [i2]
        rfl
  obtain ⟨y1, y2⟩ := e1 ls h
  show (PyData.canLayAll0 (ls.map Dta.pd) && decide (PyData.depthAll (ls.map Dta.pd) + 1 ≤ 64)) = true
  rw [y1, y2]
  rfl

/-! ### list.index of texts -/
theorem x_indexS {ls : List Txt} {t : Txt} {j : Nat} (f : Fam X S) (ho : E X e1 sl sl1 ls) (h : E X e2 sl1 sl2 t) (hj : ls[j]? = some t) (hno : ∀ m, m < j → ls[m]? ≠ some t)
    (hbase : ∀ i, attributeBase e1 "index" (X i).env (eval e1 (X i).env) = eval e1 (X i).env := by intro _; rfl)
    (hfew : ∀ i, ((backTo cpos (starEach [e2] (X i).env)).all (fun x => !x.1) && (backToKw cpos (keywordEach [] (X i).env)).all (fun x => x.1.isSome) && decide ([e2].length + ([] : List Keyword).length + (if ([] : List Keyword).isEmpty then 0 else 1) < 30)) = true := by intro _; rfl)
    (hline : (apos.endLine == cpos.line) = true := by rfl) (he : ∀ i, starEach [e2] (X i).env = (false, eval e2 (X i).env) :: starEach [] (X i).env := by intro _; rfl) :
    E X (.Call (.Attribute e1 "index" apos) [e2] [] cpos) sl sl2 (j : Int) := by
  obtain ⟨to, o1, o2⟩ := ho
  obtain ⟨ta, a1, a2⟩ := a_v h a_nil he
  refine ⟨tBM S.K "list" (rIndex S.K) to ta, fun i => ?_, o2.1.trans a2.1, fun σ F H g Q q => o2.2 σ F H g _ fun v F1 H1 s1 r1 hv => ?_⟩
  · have y := mt_index (X := X i)
    have y2 := pe_bm (cpos := cpos) (apos := apos) PySem.F.plainAttrs_list PySem.F.slot_list_index PySem.F.type_list_index y (o1 i) (a1 i) (hbase i) (hfew i) hline (he i) rfl
    rw [f.K i] at y2
    exact y2
  · obtain ⟨p, ws, rfl, hp, hr⟩ := hv
    refine ⟨.inl ⟨rfl, ws, SqL.of (r1.sub _ _ hp)⟩, a2.2 σ F1 H1 r1 _ fun vs F2 H2 s2 r2 hvs => ?_⟩
    obtain ⟨u, rfl, hu⟩ := args1 hvs
    rw [Reps.flat] at hr
    subst hr
    have hq : H2 p = some (.lst (ls.map Flat.toV)) := r2.sub _ _ (s2.fr _ _ hp)
    have at0 : ∀ m : Nat, (ls.map Flat.toV)[m]? = (ls[m]?).map Flat.toV := fun m => List.getElem?_map ..
    refine ⟨p, _, V.str (tx t), j, V.str (tx t), rfl, by rw [show u = _ from hu]; rfl, SqL.of hq, rfl, ?_, by rw [at0, hj]; rfl, ?_, fun m y hm hy => ?_, q _ F2 H2 (s1.trans s2 fun p hp => .inl (by rw [owns_kd o2.1]; exact hp)) r2 rfl⟩
    · rw [List.all_eq_true]
      intro y hy
      obtain ⟨l, _, rfl⟩ := List.mem_map.mp hy
      rfl
    · show (tx t == tx t) = true
      exact beq_self_eq_true _
    · rw [at0] at hy
      cases hl : ls[m]? with
      | none => rw [hl] at hy; cases hy
      | some l =>
        rw [hl] at hy
        cases hy
        show (tx l == tx t) = false
        rw [beq_eq_false_iff_ne]
        intro e
        exact hno m hm (by rw [hl, tx_inj e])
end
end Wk

/-! Wk20: sorted pairs of a text and an int; calls by keywords. -/
namespace Wk
open PySem L2

/-! ### pairs of a text and an int, in order -/
def siLt (p q : Txt × Int) : Bool := if p.1 = q.1 then decide (p.2 < q.2) else decide (p.1 < q.1)
theorem siLt_iff {p q : Txt × Int} : siLt p q = true ↔ p.1 < q.1 ∨ (p.1 = q.1 ∧ p.2 < q.2) := by
  unfold siLt
  by_cases e : p.1 = q.1
  · rw [if_pos e, decide_eq_true_eq]
    refine ⟨fun h => .inr ⟨e, h⟩, fun h => h.elim (fun h => ?_) (·.2)⟩
    rw [e] at h
    exact absurd h (List.lt_irrefl _)
  · rw [if_neg e, decide_eq_true_eq]
    exact ⟨.inl, fun h => h.elim id fun h => absurd h.1 e⟩
theorem txt_tri (a b : Txt) : a < b ∨ a = b ∨ b < a := by
  by_cases h : a < b
  · exact .inl h
  · by_cases h2 : b < a
    · exact .inr (.inr h2)
    · exact .inr (.inl (List.le_antisymm (List.not_lt.mp h2) (List.not_lt.mp h)))
theorem siLt_tri (p q : Txt × Int) : siLt p q = true ∨ p = q ∨ siLt q p = true := by
  rcases txt_tri p.1 q.1 with h | h | h
  · exact .inl (siLt_iff.2 (.inl h))
  · rcases Int.lt_trichotomy p.2 q.2 with y | y | y
    · exact .inl (siLt_iff.2 (.inr ⟨h, y⟩))
    · exact .inr (.inl (Prod.ext h y))
    · exact .inr (.inr (siLt_iff.2 (.inr ⟨h.symm, y⟩)))
  · exact .inr (.inr (siLt_iff.2 (.inl h)))
theorem siLt_irr (p : Txt × Int) : siLt p p = false := by
  cases h : siLt p p with
  | false => rfl
  | true =>
    rcases siLt_iff.1 h with y | y
    · exact absurd y (List.lt_irrefl _)
    · exact absurd y.2 (Int.lt_irrefl _)
theorem siLt_tr {p q r : Txt × Int} (h1 : siLt p q = true) (h2 : siLt q r = true) : siLt p r = true := by
  rw [siLt_iff] at *
  rcases h1 with y | y <;> rcases h2 with z | z
  · exact .inl (List.lt_trans y z)
  · exact .inl (z.1 ▸ y)
  · exact .inl (y.1 ▸ z)
  · exact .inr ⟨y.1.trans z.1, by omega⟩
theorem swo_si {γ : Type} (k : γ → Txt × Int) : SrtO.Swo fun v u => siLt (k v) (k u) := by
  refine ⟨fun x y h => ?_, fun x y z h1 h2 => ?_⟩
  · cases q : siLt (k y) (k x) with
    | false => rfl
    | true =>
      have := siLt_tr h q
      rw [siLt_irr] at this
      cases this
  · have f : ∀ p q, siLt q p = false → p = q ∨ siLt p q = true := fun p q h => by
      rcases siLt_tri p q with y | y | y
      · exact .inr y
      · exact .inl y
      · rw [h] at y; cases y
    have g : ∀ p q, p = q ∨ siLt p q = true → siLt q p = false := fun p q h => by
      rcases h with y | y
      · rw [y, siLt_irr]
      · cases e : siLt q p with
        | false => rfl
        | true =>
          have := siLt_tr y e
          rw [siLt_irr] at this
          cases this
    refine g _ _ ?_
    rcases f _ _ h1 with y | y <;> rcases f _ _ h2 with z | z
    · exact .inl (y.trans z)
    · exact .inr (y ▸ z)
    · exact .inr (z ▸ y)
    · exact .inr (siLt_tr y z)
/-- v is a tuple of a text and an int -/
def SiAt (m : Heap) (v : Value) (p : Txt × Int) : Prop := ∃ c o t u n, v = .ref c ∧ m.get? c = some o ∧ o.cls = .type "tuple" ∧ o.data = .seq #[.str (tx p.1) t, .int p.2 u] n
theorem SiAt.keeps {m m' : Heap} {v : Value} {p : Txt × Int} (h : SiAt m v p) (k : ∀ b o, m.get? b = some o → o.cls = .type "tuple" → m'.get? b = some o) : SiAt m' v p := by
  obtain ⟨c, o, t, u, n, e, ho, hc, hd⟩ := h
  exact ⟨c, o, t, u, n, e, k _ _ ho hc, hc, hd⟩
theorem si_firsts {m : Heap} : ∀ {vs : List Value}, (∀ v ∈ vs, ∃ p, SiAt m v p) → ∃ fs : List Value, PySem.W.KatTups m vs fs ∧ fs.length = vs.length ∧ ∀ f ∈ fs, ∃ (x : Str) (t : Tok), f = Value.str x t
  | [], _ => ⟨[], PySem.W.KatTups.nil, rfl, fun _ h => by simp at h⟩
  | v :: vs, h => by
    obtain ⟨fs, h1, h2, h3⟩ := si_firsts (vs := vs) fun u hu => h u (List.mem_cons_of_mem _ hu)
    obtain ⟨p, c, o, t, u, n, rfl, ho, hc, hd⟩ := h v (List.mem_cons_self ..)
    refine ⟨.str (tx p.1) t :: fs, PySem.W.KatTups.cons ho hc hd rfl h1, by rw [List.length_cons, List.length_cons, h2], fun f hf => ?_⟩
    rcases List.mem_cons.mp hf with y | y
    · exact ⟨_, t, y⟩
    · exact h3 f y
section
variable {P : Program} {w : World} {A : Around} {B : Value → Shared → Prop} {z : Shared}
theorem si_cmp {vs : List Value} {k : Value → Txt × Int} (hp : ∀ v ∈ vs, SiAt z.heap v (k v)) : SrtO.Cmp P w A z (PyProof.Rows.tuples' true) (fun p => p.1 ∈ vs) (SrtO.lt2 fun v u => siLt (k v) (k u)) := by
  intro p q hm hm'
  have h1 := hp _ hm
  have h2 := hp _ hm'
  show wpAny (model P w) A (PyProof.Rows.keyLt' (PyProof.Rows.tuples' true) p.1 q.1) (fun r z' => z' = z ∧ r = siLt (k p.1) (k q.1)) (fun _ _ => False) z
  generalize k p.1 = a at h1 ⊢
  generalize k q.1 = b at h2 ⊢
  obtain ⟨c, o, t, u, n, e, ho, hc, hd⟩ := h1
  obtain ⟨c', o', t', u', n', e', ho', hc', hd'⟩ := h2
  rw [e, e']
  refine PySem.W.kat_lt ho hd ho' hd' ?_
  show PySem.W.KatLex P w A true (decide (2 < 2)) _ [(.str (tx a.1) t, .str (tx b.1) t'), (.int a.2 u, .int b.2 u')] 0 z
  refine PySem.W.kat_cons (SeqAt.EqAt.str_str (tx a.1) t (tx b.1) t' P w _ _ ?_)
  refine PySem.W.kat_go (fun e1 => ?_) (fun e1 => ?_)
  · have ex : a.1 = b.1 := tx_inj (by simpa using e1)
    have e3 : siLt a b = decide (a.2 < b.2) := if_pos ex
    refine PySem.W.kat_yes (PySem.W.kat_cons (SeqAt.EqAt.int_int a.2 u b.2 u' P w _ _ ?_))
    refine PySem.W.kat_go (fun e2 => ?_) (fun e2 => ?_)
    · have ey : a.2 = b.2 := by simpa using e2
      refine PySem.W.kat_yes (PySem.W.kat_nil ⟨rfl, ?_⟩)
      rw [e3, ey]
      exact (decide_eq_false (Int.lt_irrefl _)).symm
    · refine PySem.W.kat_no (PySem.W.kat_one _ _ (PyProof.Rows.lt_int ?_))
      exact (show z = z ∧ decide (a.2 < b.2) = siLt a b from ⟨rfl, e3.symm⟩)
  · have ex : ¬ a.1 = b.1 := fun y => by rw [y] at e1; simp at e1
    have e3 : siLt a b = decide (a.1 < b.1) := if_neg ex
    refine PySem.W.kat_no (PyProof.Rows.oneLt_str ⟨rfl, ?_⟩)
    rw [e3, tx_cps, tx_cps]
theorem si_sortable {at0 : Addr} {vs : List Value} {k : Value → Txt × Int} (h0 : 0 < vs.length) (hp : ∀ v ∈ vs, SiAt z.heap v (k v)) (ha : ∀ o, z.heap.get? at0 = some o → o.cls ≠ .type "tuple") : SrtO.SortableO P w A z at0 vs fun v u => siLt (k v) (k u) := by
  intro m' keep
  have hp' : ∀ v ∈ vs, SiAt m' v (k v) := fun v hm => (hp v hm).keeps fun b o e c => keep b o (fun y => by subst y; exact ha o e c) e
  obtain ⟨fs, h1, h2, h3⟩ := si_firsts fun v hm => ⟨_, hp' v hm⟩
  refine ⟨PyProof.Rows.tuples' true, fun Q E hq => ?_, si_cmp (z := { z with heap := m' }) hp'⟩
  refine PySem.W.kat_kind (T := .type "str") h1 (by omega) (fun f hm => ?_) (by rfl) ?_
  · obtain ⟨x, t, rfl⟩ := h3 f hm
    exact PySem.W.Looks.now
  · have e : (Value.type "str" != Value.type "tuple") = true := by decide
    rw [e]
    exact hq
theorem si_sorted {l : Addr} {vs : List Value} {k : Value → Txt × Int} {Q : Value → Shared → Prop} (hl : z.heap.IsList l vs.toArray) (hz : vs.length ≤ sizeLine) (hp : ∀ v ∈ vs, SiAt z.heap v (k v))
    (fin : ∀ (m' : Heap) (d : Addr) (out : List Value), SrtO.Srtd (fun v u => siLt (k v) (k u)) out → out.Perm vs → (∀ b o, z.heap.get? b = some o → m'.get? b = some o) → z.heap.objs.size ≤ d → (∃ n, m'.get? d = some (PyProof.Rows.seqObj "list" out.toArray n)) → Q (.ref d) { z with heap := m' }) :
    wpAny (model P w) A (call (.builtin "sorted") [.ref l]) Q B z := by
  refine SrtO.sorted_ord (swo_si k) hl hz (fun h2 m1 at0 ha kk => ?_) fun out hs hb => ?_
  · refine si_sortable (z := { z with heap := m1 }) (by omega) (fun v hm => (hp v hm).keeps fun b o e _ => (kk b o e).2) fun o e => ?_
    have e' : some o = some (PyProof.Rows.seqObj "list" vs.toArray 0) := e.symm.trans ha
    cases e'
    intro c
    exact absurd (Value.type.inj c) (by decide)
  · exact fin _ _ out hs hb.perm (fun b o e => PyProof.Rows.sortedAll_old e) (Nat.le_succ _) (PyProof.Rows.sortedAll_at z.heap vs out.toArray)
end
/-- the pair that a tuple's value tells -/
def siOf (H : Hp) (v : V) : Txt × Int := match v with
  | .ref t => (match H t with | some (.tup [.str a, .int b]) => (a.cps.toList, b) | _ => ([], 0))
  | _ => ([], 0)
theorem siOf_rep {F H : Hp} {v : V} {p : Txt × Int} (s : Same F H) (h : Rep.rep F v p) : siOf H v = p ∧ ∃ t, v = .ref t ∧ H t = some (.tup [.str (tx p.1), .int p.2]) := by
  obtain ⟨t, x, y, rfl, h1, h2, h3⟩ := h
  cases h2
  cases h3
  have h4 : H t = some (.tup [.str (tx p.1), .int p.2]) := s _ _ h1
  refine ⟨?_, t, rfl, h4⟩
  unfold siOf
  dsimp only
  rw [h4]
  dsimp only
  rw [tx_cps]
def rSi (K : PySem.W.Frag) : List V → Hp → VK → Prop := fun vs H Q => ∃ (a : Addr) (xs : List V), vs = [V.ref a] ∧ SqL K H a xs ∧ (∀ x ∈ xs, ∃ t, x = V.ref t ∧ H t = some (.tup [.str (tx (siOf H x).1), .int (siOf H x).2])) ∧
  ∀ ys p, (ys.map (siOf H)).Pairwise (fun x y => siLt y x = false) → ys.Perm xs → H p = none → Q (.ref p) (upd H p (.lst ys))
theorem cr_si {X : Cx} : CallR X (.builtin "sorted") (rSi X.K) := by
  intro pins z σ H vs us Q I r h
  obtain ⟨a, xs, rfl, hs, hx, q⟩ := h
  obtain ⟨its, rv, hl, hz⟩ := I.list hs
  obtain ⟨u, rfl, ru⟩ := vals1 r
  obtain rfl : u = Value.ref a := ru
  obtain ⟨e1, e2⟩ := refs_back rv fun x m => by
    obtain ⟨t, e, _⟩ := hx x m
    exact ⟨t, e⟩
  refine si_sorted (k := fun u => siOf H (backV u)) hl.isList (by rw [← rv.length]; exact hz) (fun v hv => ?_) fun m' d out h1 h2 kp hd hn => ?_
  · obtain ⟨t, rfl⟩ := e2 v hv
    have hm : V.ref t ∈ xs := by rw [e1]; exact List.mem_map.mpr ⟨_, hv, rfl⟩
    obtain ⟨t', e, ht⟩ := hx _ hm
    cases e
    obtain ⟨_, its2, r2, o, ho, hc, n, hd⟩ := I.hok _ _ ht
    obtain ⟨u1, u2, rfl, ⟨t1, rfl⟩, ⟨t2, rfl⟩⟩ := vals2 r2
    exact ⟨t, o, t1, t2, n, rfl, ho, hc, hd⟩
  · have h3 : ∀ u ∈ out, ∃ a, u = Value.ref a := fun u hu => e2 u (h2.mem_iff.mp hu)
    obtain ⟨n, hn⟩ := hn
    have hb : (out.map backV).Perm xs := by
      rw [e1]
      exact h2.map _
    refine ⟨.ref d, upd H d (.lst (out.map backV)), I.laid (t' := z.toks) kp hd ⟨?_, out, n, vals_back h3, hn⟩, rfl, q _ d ?_ hb (I.hok.fresh hd)⟩
    · rw [hb.length_eq]
      exact hz
    · rw [List.map_map]
      exact List.pairwise_map.mpr h1
section
variable {ι : Type} {X : ι → Cx} {S : Sit} {sl sl1 sl2 : List Slot} {e : Expr} {pos p1 : Pos}
/-- sorted(list of pairs of a text and an int): ys is it -/
theorem x_sortedSI {xs ys : List (Txt × Int)} (f : Fam X S) (h : E X e sl sl1 xs) (hp : ys.Perm xs) (hs : ys.Pairwise fun a b => siLt a b = true) (hg : ∀ i, Gl (X i) "sorted") (hm : S.mg "sorted" = none)
    (he : ∀ i, starEach [e] (X i).env = (false, eval e (X i).env) :: starEach [] (X i).env := by intro _; rfl) : EN X (.Call (.Name "sorted" p1) [e] [] pos) sl sl1 (cl ys) :=
  x_callBN f (r := rSi S.K) (fun i => by
    have y := cr_si (X := X i)
    rw [f.K i] at y
    exact y) (a_v h a_nil he) (fun σ F H H0 vs g hA Q q => by
    obtain ⟨v, rfl, a, ws, rfl, ha, hr⟩ := args1 hA
    have key : ∀ {ws : List V} {xs : List (Txt × Int)}, Reps F ws xs → ws.map (siOf H) = xs ∧ ∀ v ∈ ws, Rep.rep F v (siOf H v) := by
      intro ws
      induction ws with
      | nil => intro xs hr; cases xs with
        | nil => exact ⟨rfl, fun v hv => by simp at hv⟩
        | cons _ _ => exact hr.elim
      | cons v ws ih => intro xs hr; cases xs with
        | nil => exact hr.elim
        | cons p xs =>
          obtain ⟨i1, i2⟩ := ih hr.2
          have i3 := (siOf_rep g.sub hr.1).1
          refine ⟨by rw [List.map_cons, i1, i3], fun u hu => ?_⟩
          rcases List.mem_cons.mp hu with y | y
          · rw [y, i3]; exact hr.1
          · exact i2 u y
    obtain ⟨k1, k2⟩ := key hr
    refine ⟨a, ws, rfl, SqL.of (g.sub _ _ ha), fun x hx => (siOf_rep g.sub (k2 x hx)).2, fun zs p s1 pm hp2 => q _ ⟨zs, rfl, ?_⟩ p hp2⟩
    have e1 : zs.map (siOf H) = ys := by
      refine List.Perm.eq_of_pairwise (le := fun x y => siLt y x = false) (fun a b _ _ h1 h2 => ?_) s1 (hs.imp fun {a b} h => ?_) ((pm.map _).trans (by rw [k1]; exact hp.symm))
      · rcases siLt_tri a b with y | y | y
        · rw [h2] at y; cases y
        · exact y
        · rw [h1] at y; cases y
      · exact (swo_si id).asym a b h
    rw [← e1]
    have aux : ∀ {zs : List V}, (∀ v ∈ zs, v ∈ ws) → Reps F zs (zs.map (siOf H)) := by
      intro zs
      induction zs with
      | nil => intro _; trivial
      | cons v zs ih => intro h; exact ⟨k2 v (h v (List.mem_cons_self ..)), ih fun u hu => h u (List.mem_cons_of_mem _ hu)⟩
    exact aux fun v hv => pm.mem_iff.mp hv) hg hm PyProof.Rows.boot_sorted (he := he)
end
end Wk

/-! Wk21: calls by keywords. -/
namespace Wk
open PySem L2

/-- a def that keeps a promise, called with n values by position and the rest by the names ks; rv: in the turned order -/
def Fnk (P : Program) (w : World) (K : PySem.W.Frag) (mg : Str → Option Value) (base : Heap) (k : Nat) (x : Str) (ps : List Str) (n : Nat) (ks : List Str) (tn : Bool) (q : Pr) : Prop :=
  ∃ f fd, mg x = some (.ref f) ∧ PySem.W.keepIn K (.ref f) = true ∧ KBn K fd ps n ks (fun us ws => us ++ (if tn then ws.reverse else ws)) (fun vs zs => vs ++ (if tn then zs.reverse else zs)) ∧ FnG P w K mg base CX0 k f fd ps q.sp
theorem vals_turn {vs : List V} {us : List Value} {zs : List V} {ws : List Value} {tn : Bool} (h1 : Vals vs us) (h2 : Vals zs ws) : Vals (vs ++ (if tn then zs.reverse else zs)) (us ++ (if tn then ws.reverse else ws)) := by
  cases tn
  · exact h1.append h2
  · exact h1.append h2.reverse
/-- of a def -/
theorem fnk_of {P : Program} {w : World} {K : PySem.W.Frag} {mg : Str → Option Value} {base : Heap} {k : Nat} {x nm qual : Str} {ps : List Str} {n : Nat} {ks : List Str} {tn : Bool} {q : Pr} {st : Stmt} {f : Addr} {fd : FuncData} (F : Fun K nm qual st f fd) (hm : mg x = some (.ref f)) (hk : PySem.W.keepIn K (.ref f) = true) (ok : FnG P w K mg base CX0 k f fd ps q.sp)
    (hb : ∀ (kV doc pm : Value) (an : Option Addr) (cdv ct : Value) (us ws : List Value), us.length = n → ws.length = ks.length → bindArgs (PySem.W.fnOf nm qual (defArgs st) (defBody st) (defScope st) .none kV doc pm an cdv ct) ⟨us, ks.zip ws⟩ = pure (ps.zip (us ++ (if tn then ws.reverse else ws)))) : Fnk P w K mg base k x ps n ks tn q := by
  refine ⟨f, fd, hm, hk, ⟨fun s us ws _ h1 h2 => ?_, fun h1 h2 => vals_turn h1 h2⟩, ok⟩
  obtain ⟨oc, od, kV, doc, pm, an, cdv, ct, osl, rfl, _, _⟩ := F.ex
  exact BindsTo.of_eq (hb _ _ _ _ _ _ us ws h1 h2)
theorem Fnk.mono {P : Program} {w : World} {K : PySem.W.Frag} {mg : Str → Option Value} {base : Heap} {k k' : Nat} {x : Str} {ps : List Str} {n : Nat} {ks : List Str} {tn : Bool} {q : Pr} (h : Fnk P w K mg base k x ps n ks tn q) (hk : k ≤ k') : Fnk P w K mg base k' x ps n ks tn q := by
  obtain ⟨f, fd, h1, h2, h3, h4⟩ := h
  exact ⟨f, fd, h1, h2, h3, h4.mono hk⟩
def tCk (m : Nat) (sp : Sp) (gV : List V → List V) (E : XK) (tk : TA) : TE := fun σ H Q => tk σ H fun zs H2 => zs.length = m ∧ sp (gV zs) H2 Q E
/-- f(k = v, ..) -/
theorem pe_callK0 {X : Cx} {CX : CXT} {k : Nat} {f : Addr} {fd : FuncData} {ps ks : List Str} {sp : Sp} {E : XK} {x : Str} {p pos : Pos} {kws : List Keyword} {tk : TA} {g : List Value → List Value → List Value} {gV : List V → List V → List V}
    (F : FnG X.prog X.w X.K X.mg X.base CX k f fd ps sp) (hr : Room k X.A) (gd : X.A.guards = some []) (hg : Gl X x) (hm : X.mg x = some (.ref f)) (hk : PySem.W.keepIn X.K (.ref f) = true) (hb : KBn X.K fd ps 0 ks g gV) (hx : Passes CX X E) (hkw : PK X kws tk)
    (hall : (backToKw pos (keywordEach kws X.env)).all (·.1.isSome) = true := by rfl) (hks : (backToKw pos (keywordEach kws X.env)).filterMap (·.1) = ks := by rfl) (hdb : (x == ("__debug__" : Str)) = false := by decide)
    (hpl : ((backTo pos (starEach [] X.env)).any (·.1) || (backToKw pos (keywordEach kws X.env)).any (·.1.isNone)) = false := by rfl) : PE X (.Call (.Name x p) [] kws pos) (tCk ks.length sp (gV []) E tk) := by
  refine ⟨fun pins z σ H Q I h => ?_⟩
  refine wpAny_Call_Name_kw (ld_glob I hg hm ?_ hdb)
  refine PySem.W.callWith_KW0 (h₀ := X.base) I.ok.mod.kin hk hall ?_ hpl
  refine thn (hkw.run pos pins z σ H _ I h) fun ws z2 ⟨zs, H2, I2, rz, l2, q2⟩ => ⟨I2.kIn, ?_⟩
  rw [hks]
  refine wpAny_call (codeAny_mono (goG F hr gd hx I2 (hb.to z2 [] ws I2.kIn rfl (rz.length.symm.trans l2)) (hb.rel .nil rz) q2) fun r z' got => ?_)
  match r, got with
  | .error e, got => exact got
  | .ok (.ret u), got => exact got
  | .ok .next, got => exact got.elim
  | .ok .brk, got => exact got.elim
  | .ok .cont, got => exact got.elim

section
variable {ι : Type} {X : ι → Cx} {S : Sit} {sl sl1 sl2 : List Slot} {α β : Type} [Rep α] [Rep β] {e : Expr} {pos p1 kpos : Pos} {kws : List Keyword} {nm : Option Str} {as : List Arg}
/-- the values of keywords -/
def Kw (X : ι → Cx) (kws : List Keyword) (sl sl1 : List Slot) (as : List Arg) : Prop := ∃ t, (∀ i, PK (X i) kws t) ∧ EvA t sl sl1 as
theorem kw_nil : Kw X [] sl sl [] := by
  obtain ⟨t, _, h⟩ := (a_nil : A X [] sl sl [])
  refine ⟨tNil, fun i => pk_nil, rfl, fun σ F H r Q q => q [] F H (.refl _ _ _) r trivial⟩
theorem kw_v {a : α} (h : E X e sl sl1 a) (hr : Kw X kws sl1 sl2 as) : Kw X (⟨nm, e, kpos⟩ :: kws) sl sl2 (va a :: as) := by
  obtain ⟨te, a1, a2⟩ := h
  obtain ⟨ta, b1, b2⟩ := hr
  refine ⟨tCons te ta, fun i => pk_cons (a1 i) (b1 i), a2.1.trans b2.1, fun σ F H r Q q => a2.2 σ F H r _ fun v F1 H1 s1 r1 hv => b2.2 σ F1 H1 r1 _ fun vs F2 H2 s2 r2 hvs => ?_⟩
  exact q (v :: vs) F2 H2 (s1.trans s2 fun p hp => .inl (by rw [owns_kd a2.1]; exact hp)) r2 ⟨Rep.mono s2.fr hv, args_wk (fun p y => s1.free y) hvs⟩
theorem args_app {σ : L2.St} {H0 F H : Hp} : ∀ {vs ws : List V} {as bs : List Arg}, Args σ H0 F H vs as → Args σ H0 F H ws bs → Args σ H0 F H (vs ++ ws) (as ++ bs)
  | [], _, [], _, _, h => h
  | _ :: _, _, _ :: _, _, h, h' => ⟨h.1, args_app h.2 h'⟩
theorem args_rev {σ : L2.St} {H0 F H : Hp} : ∀ {vs : List V} {as : List Arg}, Args σ H0 F H vs as → Args σ H0 F H vs.reverse as.reverse
  | [], [], _ => trivial
  | v :: vs, a :: as, h => by
    rw [List.reverse_cons, List.reverse_cons]
    exact args_app (args_rev h.2) ⟨h.1, trivial⟩
/-- f(k = v, ..), values alone -/
theorem x_callK {q : Pr} {k : Nat} {x : Str} {ps ks : List Str} {tn : Bool} {b : β} (fm : Fam X S) (F : Fnk S.P S.w S.K S.mg S.base k x ps 0 ks tn q) (a : q.A) (ha : Kw X kws sl sl1 as) (hpre : q.pre a) (hl : as.length = ks.length) (hf : Fits 0 (cl ([] : List Int)) (some 0) (if tn then as.reverse else as) (q.ins a)) (hr : q.res a = rv b) (hk : k ≤ S.k) (hg : ∀ i, Gl (X i) x) (hpar : parO (q.ins a) = [] := by rfl)
    (hall : ∀ i, (backToKw pos (keywordEach kws (X i).env)).all (·.1.isSome) = true := by intro _; rfl) (hks : ∀ i, (backToKw pos (keywordEach kws (X i).env)).filterMap (·.1) = ks := by intro _; rfl) (hdb : (x == ("__debug__" : Str)) = false := by decide)
    (hpl : ∀ i, ((backTo pos (starEach [] (X i).env)).any (·.1) || (backToKw pos (keywordEach kws (X i).env)).any (·.1.isNone)) = false := by intro _; rfl) : E X (.Call (.Name x p1) [] kws pos) sl sl1 b := by
  obtain ⟨ta, h1, h2⟩ := ha
  obtain ⟨f, fd, y1, y2, y3, y4⟩ := F
  refine ⟨tCk ks.length q.sp (fun zs => [] ++ (if tn then zs.reverse else zs)) E0 ta, fun i => ?_, h2.1, fun σ F H r Q qq => h2.2 σ F H r _ fun vs F1 H1 s1 r1 hvs => ⟨?_, ?_⟩⟩
  · exact pe_callK0 (gV := fun vs zs => vs ++ (if tn then zs.reverse else zs)) (fnok_at fm y4 hk) (fm.room i) (fm.gd i) (hg i) (by rw [fm.mg i]; exact y1) (by rw [fm.K i]; exact y2) (by rw [fm.K i]; exact y3) pass0 (h1 i) (hall i) (hks i) hdb (hpl i)
  · rw [args_len hvs, hl]
  · have hv2 : Args σ H F1 H1 ([] ++ (if tn then vs.reverse else vs)) (if tn then as.reverse else as) := by
      rw [List.nil_append]
      cases tn
      · exact hvs
      · exact args_rev hvs
    have y := fits_vals hv2 hf hpar
    refine ⟨a, F1, ⟨r1.sub, by rw [y.2, hpar]; exact List.nodup_nil, y.1⟩, hpre, fun v F2 H2 s2 sm ho hrv => ?_⟩
    rw [y.2, hpar] at s2
    rw [hr] at hrv
    exact qq v F2 H2 (s1.trans s2 fun p hp => by simp at hp) (r1.grow s2 sm) hrv
end
section
variable {ι : Type} {X : ι → Cx} {S : Sit} {sl sl1 sl2 : List Slot} {α β : Type} [Rep α] [Rep β] {e e1 e2 e3 : Expr} {pos p1 : Pos}
/-- i op j op' k of ints, as a value -/
theorem x_chainI {op op' : CmpOp} {g g' : Int → Int → Bool} {i j k : Int} (ho : ∀ n, OpR (X n) (compareOp op) (rI0 fun i j => .bl (g i j))) (ho' : ∀ n, OpR (X n) (compareOp op') (rI0 fun i j => .bl (g' i j))) (ha : E X e1 sl sl i) (hb : E X e2 sl sl j) (hc : E X e3 sl sl k) (hm : lastMarks [op, op'] [e2, e3] = false := by rfl) :
    E X (.Compare e1 [op, op'] [e2, e3] pos) sl sl (g i j && g' j k) := by
  obtain ⟨ta, a1, a2⟩ := ha
  obtain ⟨tb, b1, b2⟩ := hb
  obtain ⟨tc, c1, c2⟩ := hc
  refine ⟨_, fun n => pe_chain (ho n) (ho' n) (a1 n) (b1 n) (c1 n) hm, rfl, fun σ F H r Q q => ev2 a2 b2 r fun x y F1 H1 s1 r1 hx hy => ⟨i, j, hx, hy, g i j, rfl, ?_⟩⟩
  cases hg : g i j with
  | true =>
    rw [if_pos rfl]
    refine c2.2 σ F1 H1 r1 _ fun z F2 H2 s2 r2 hz => ⟨j, k, hy, hz, ?_⟩
    have y := q (V.bl (g' j k)) F2 H2 (s1.trans s2 fun p hp => .inl hp) r2
    rw [hg, Bool.true_and] at y
    exact y rfl
  | false =>
    rw [if_neg Bool.false_ne_true]
    have y := q (V.bl false) F1 H1 s1 r1
    rw [hg, Bool.false_and] at y
    exact y rfl
/-- None is not None: no -/
theorem t_notNoneU (f : Fam X S) {k : Nat} (ha : E X e1 sl sl1 ()) : T X (.Compare e1 [.IsNot] [.Constant .none k p1] pos) sl sl1 false :=
  t_cmp f (fun _ => op_notN) ha (x_none f) (by rfl) fun F H x y sm hx hy Q q => by
    cases hx
    cases hy
    exact ⟨rfl, q⟩
end
end Wk

/-! Wk22: tuples of one kind; weaker slots ahead of statements. -/
namespace Wk
open PySem L2

section
variable {ι : Type} {X : ι → Cx} {S : Sit} {sl sl1 sl2 sl3 : List Slot} {α β ρ : Type} [Rep α] [Rep β] [Rep ρ] {e e1 e2 : Expr} {es : List Expr} {pos p1 : Pos} {r : Out ρ}
/-- a tuple of things of one kind -/
theorem x_tup {xs : List α} {k : Nat} (h : A X es sl sl1 (xs.map va)) (hl : xs.length ≤ 16777216) : E X (.Tuple es k pos) sl sl1 (Tup.mk xs) := by
  obtain ⟨t, a1, a2⟩ := h
  refine ⟨_, fun i => pe_tup (a1 i), a2.1, fun σ F H r Q q => a2.2 σ F H r _ fun vs F1 H1 s1 r1 hvs => ?_⟩
  have hr := args_reps hvs
  refine ⟨by rw [hr.len, sizeLine_eq]; exact hl, fun p hp => ?_⟩
  have fp : F1 p = none := by
    cases y : F1 p with
    | none => rfl
    | some u => rw [r1.sub p u y] at hp; cases hp
  have hn : p ∉ owns σ sl1 := fun y => (Slots.owned r1.ok p y).2 hp
  refine q (.ref p) (upd F1 p (.tup vs)) _ (stp_frz (s1.trans (stp_new (os := owns σ sl) hp) fun b hb => .inl hb) (s1.free hp) fp) ((r1.new hp).frz fp upd_same hn) ⟨p, vs, rfl, upd_same, ?_⟩
  exact hr.mono fun b u e => by rw [upd_ne (ne_of_none e fp)]; exact e
/-- x, y, z = a tuple -/
theorem tg_tup3 (f : Fam X S) {t1 t2 t3 : Expr} {k : Nat} {js ks ls : List Nat} {a b c : α} (h1 : Tg X t1 js a sl sl1) (h2 : Tg X t2 ks b sl1 sl2) (h3 : Tg X t3 ls c sl2 sl3) (hn : ∀ i, (assignEach [t1, t2, t3] (X i).env).length = 3 := by intro _; rfl) (hst : ∀ i, (assignEach [t1, t2, t3] (X i).env).findIdx? (·.1) = none := by intro _; rfl)
    (ha : ∀ i, (assignEach [t1, t2, t3] (X i).env).map (·.2) = assign t1 (X i).env :: (assignEach [t2, t3] (X i).env).map (·.2) := by intro _; rfl) (ha2 : ∀ i, (assignEach [t2, t3] (X i).env).map (·.2) = assign t2 (X i).env :: (assignEach [t3] (X i).env).map (·.2) := by intro _; rfl)
    (ha3 : ∀ i, (assignEach [t3] (X i).env).map (·.2) = assign t3 (X i).env :: (assignEach [] (X i).env).map (·.2) := by intro _; rfl) : Tg X (.Tuple [t1, t2, t3] k pos) (js ++ (ks ++ ls)) (Tup.mk [a, b, c]) sl sl3 := by
  obtain ⟨g1, a1, b1⟩ := h1
  obtain ⟨g2, a2, b2⟩ := h2
  obtain ⟨g3, a3, b3⟩ := h3
  refine ⟨gTup S.K 3 (gCons g1 (gCons g2 (gCons g3 gNil))), fun i => ?_, fun σ F H v r hv Q q => ?_⟩
  · have y := pg_tup (pos := pos) (k := k) (f.calm i) (pgs_cons (a1 i) (pgs_cons (a2 i) (pgs_cons (a3 i) pgs_nil (ha3 i)) (ha2 i)) (ha i)) (hn i) (hst i)
    rw [f.K i] at y
    exact y
  · obtain ⟨p, vs, rfl, hp, hr⟩ := hv
    match vs, hr with
    | [x, y, w], ⟨hx, hy, hw, _⟩ =>
      refine ⟨p, [x, y, w], rfl, SqT.of (r.sub _ _ hp), rfl, x, [y, w], rfl, ?_⟩
      refine b1 σ F H x r hx _ fun σ1 r1 o1 s1 k1 => ⟨y, [w], rfl, ?_⟩
      refine b2 σ1 F H y r1 hy _ fun σ2 r2 o2 s2 k2 => ⟨w, [], rfl, ?_⟩
      refine b3 σ2 F H w r2 hw _ fun σ3 r3 o3 s3 k3 => ⟨rfl, ?_⟩
      refine q σ3 r3 ((o1.trans (F := F) (F1 := F) o2 fun _ z => z).trans (F := F) (F1 := F) o3 fun _ z => z) (fun p hp => s1 p (s2 p (s3 p hp))) fun m hm => ?_
      rw [List.mem_append, List.mem_append, not_or, not_or] at hm
      exact (k3 m hm.2.2).trans ((k2 m hm.2.1).trans (k1 m hm.1))
/-- what is known is forgotten -/
theorem g_wk {sts : List Stmt} (h : G X sts sl1 r) (w : Wks sl sl1) : G X sts sl r := by
  obtain ⟨t, a1, a2⟩ := h
  refine ⟨t, a1, fun σ F H D g m => ?_⟩
  obtain ⟨g1, o1⟩ := g.wk w
  exact a2 σ F H D g1 (m.step g (.refl _ _ _) o1)
end
end Wk

/-! Wk23: what the top has written: defs and names. -/
namespace Wk
open PySem L2

/-- the def at a name of the top -/
def Dfn (K : PySem.W.Frag) (x : Str) (st : Stmt) : Prop := ∃ f fd, PySem.W.nsIn K mainGlobals x = some (some (.ref f)) ∧ Fun K x x st f fd ∧ PySem.W.keepIn K (.ref f) = true
theorem dfn_mk {K : PySem.W.Frag} {x : Str} {st : Stmt} {f : Addr} {oc kV doc pm cdv ct : Value} {od an : Option Addr} {osl : Array (Option Value)} (a : PySem.W.nsIn K mainGlobals x = some (some (.ref f)))
    (l : K.lookup f = some ⟨oc, od, .func (PySem.W.fnOf x x (defArgs st) (defBody st) (defScope st) .none kV doc pm an cdv ct), osl⟩) (c : PySem.W.codeIn K cdv x = true) (k : PySem.W.keepIn K (.ref f) = true) : Dfn K x st :=
  ⟨f, _, a, fun_mk l c k, k⟩
theorem cst_mk {K : PySem.W.Frag} {x : Str} {u : Value} {v : V} (a : PySem.W.nsIn K mainGlobals x = some (some u)) (r : RelV v u) : ∃ u, PySem.W.nsIn K mainGlobals x = some (some u) ∧ RelV v u := ⟨u, a, r⟩
abbrev NoG (K : PySem.W.Frag) (x : Str) : Prop := PySem.W.nsIn K mainGlobals x = some none
section
variable {P : Program} {w : World} {K : PySem.W.Frag} {mg : Str → Option Value} {base h : Heap} {x : Str} {st : Stmt}
theorem fnc_mk {k : Nat} {ps : List Str} {q : Pr} (d : Dfn K x st) (X : K.In h) (G : h.Ns mainGlobals mg) (ok : ∀ f fd, Fun K x x st f fd → FnG P w K mg base CX0 k f fd ps q.sp)
    (hb : ∀ (kV doc pm : Value) (an : Option Addr) (cdv ct : Value) (us : List Value), us.length = ps.length → bindArgs (PySem.W.fnOf x x (defArgs st) (defBody st) (defScope st) .none kV doc pm an cdv ct) ⟨us, []⟩ = pure (ps.zip us)) : Fnc P w K mg base k x ps q := by
  obtain ⟨f, fd, a, F, kp⟩ := d
  exact ⟨f, fd, PySem.W.mg_of X G a, kp, F.binds hb, ok f fd F, st, _, _, F⟩
theorem fnk_mk {k n : Nat} {ps ks : List Str} {tn : Bool} {q : Pr} (d : Dfn K x st) (X : K.In h) (G : h.Ns mainGlobals mg) (ok : ∀ f fd, Fun K x x st f fd → FnG P w K mg base CX0 k f fd ps q.sp)
    (hb : ∀ (kV doc pm : Value) (an : Option Addr) (cdv ct : Value) (us ws : List Value), us.length = n → ws.length = ks.length → bindArgs (PySem.W.fnOf x x (defArgs st) (defBody st) (defScope st) .none kV doc pm an cdv ct) ⟨us, ks.zip ws⟩ = pure (ps.zip (us ++ (if tn then ws.reverse else ws)))) : Fnk P w K mg base k x ps n ks tn q := by
  obtain ⟨f, fd, a, F, kp⟩ := d
  exact fnk_of F (PySem.W.mg_of X G a) kp (ok f fd F) hb
end
end Wk

/-! Wk24: the law's call, no repr being under way; the end. -/
namespace Wk
open PySem L2

/-- the call of the law's def by the claim's caller -/
theorem lawG {P : Program} {w : World} {K : PySem.W.Frag} {mg mb : Str → Option Value} {k : Nat} {fa at0 : Addr} {fd : FuncData} {x : Str} {sp : Sp} {z : Shared} {vs : List Value} {ns : List Int}
    (inK : K.In z.heap) (glo : z.heap.Ns mainGlobals mg) (blt : z.heap.Ns builtinsNs mb) (boot : ∀ y : Str, y ≠ "__name__" → mb y = bootBuiltins y) (nolim : z.heap.NoLimit) (nogen : z.gens = #[])
    (obj : z.heap.get? at0 = some { cls := .type "list", data := .seq vs.toArray }) (nums : PyProof.Rows.IntsAre vs ns) (few : ns.length ≤ sizeLine) (room : Room k callerA)
    (F : ∀ base : Heap, K.In base → base.Ns mainGlobals mg → FnG P w K mg base CX0 k fa fd [x] sp) (bind : ∀ (s : Shared) (u : Value), BindsTo s fd ⟨[u], []⟩ [(x, u)])
    (prom : ∀ H : Hp, Only H → SqL K H at0 (ns.map V.int) → sp [.ref at0] H (fun v _ => v = .bl true) E0) :
    codeAny (model P w) callerA (.call (.ref fa) ⟨[.ref at0], []⟩) (fun r z' => r = .ok (.ret (.bool true)) ∧ OldK z.heap z'.heap ∧ z'.os = z.os ∧ PyProof.Rows.AllBare z'.gens) z := by
  have rel := vals_ints nums
  have lenV := nums.length
  have main : ∀ H : Hp, Only H → SqL K H at0 (ns.map V.int) → HOk P w H z.heap → (∀ c, H c ≠ none → c = at0) → (H at0 ≠ none → K.lookup at0 = none) →
      codeAny (model P w) callerA (.call (.ref fa) ⟨[.ref at0], []⟩) (fun r z' => r = .ok (.ret (.bool true)) ∧ OldK z.heap z'.heap ∧ z'.os = z.os ∧ PyProof.Rows.AllBare z'.gens) z := by
    intro H only sqx hok sole own
    have stay : ∀ {c : Addr} {o : Obj}, z.heap.get? c = some o → H c = none → (hidT z.heap H).get? c = some o := fun e n => hidT_get e n
    have free : ∀ {c : Addr} {o : Obj} {es : Array DictEntry} {ep : Nat}, z.heap.get? c = some o → o.data = .dict es ep → H c = none := fun {c o es ep} e d => by
      cases q : H c with
      | none => rfl
      | some u =>
        obtain rfl : c = at0 := sole c (by rw [q]; simp)
        rw [obj] at e
        cases e
        exact nomatch (show Data.seq vs.toArray _ = Data.dict es ep from d)
    have names : ∀ {c : Addr} {m : Str → Option Value}, z.heap.Ns c m → (hidT z.heap H).Ns c m := fun {c m} ⟨o, es, ep, e, d, r⟩ => ⟨o, es, ep, stay e (free e d), d, r⟩
    have inB : K.In (hidT z.heap H) := fun c o e => stay (inK c o e) (by
      cases q : H c with
      | none => rfl
      | some u =>
        obtain rfl : c = at0 := sole c (by rw [q]; simp)
        rw [own (by rw [q]; simp)] at e
        cases e)
    have md : Mod K mg (hidT z.heap H) := ⟨inB, names glo, ⟨mb, names blt, boot⟩, let ⟨mc, y1, y2⟩ := nolim; ⟨mc, names y1, y2⟩⟩
    have env0 : Env0 P w K mg (hidT z.heap H) callerA [] z H := ⟨rfl, md, fun c o e => of_hidT e, Nat.le_of_eq (hidT_size _ _), trivial, fun c hc => absurd (show c ∈ ([] : List Addr) from hc) (by simp), hok, .of_eq nogen⟩
    refine codeAny_mono ((F _ inB (names glo)).goes callerA [] z H ⟨[.ref at0], []⟩ [.ref at0] [.ref at0] _ _ room rfl env0 (bind z (.ref at0)) (.cons rfl .nil) (prom H only sqx)) fun r z' got => ?_
    match r, got with
    | .error e, got => exact got.elim
    | .ok .next, got => exact got.elim
    | .ok .brk, got => exact got.elim
    | .ok .cont, got => exact got.elim
    | .ok (.ret u), ⟨v, H2, os, bare, un, hok2, r2, q⟩ =>
      obtain rfl : v = .bl true := q
      obtain rfl : u = Value.bool true := r2
      refine ⟨rfl, OldK.of_keep fun c o e => ?_, os, bare⟩
      cases q : H c with
      | none => exact un.keep c o e q (fun y => absurd (show c ∈ ([] : List Addr) from y) (by simp)) (by simp)
      | some u =>
        rcases only c with y | ⟨ob, xs, y⟩
        · rw [q] at y
          cases y
        · obtain ⟨e1, _⟩ := hok c _ y
          obtain ⟨e2, _⟩ := hok2 c _ (un.frzs c ob _ y)
          rw [e] at e1
          cases e1
          exact e2
  cases lk : K.lookup at0 with
  | some o =>
    have e := inK at0 o lk
    rw [obj] at e
    cases e
    refine main (fun _ => none) (fun _ => .inl rfl) (.inr ⟨_, vs.toArray, _, lk, rfl, rfl, rfl, by rw [List.size_toArray, lenV]; exact few, by simpa using rel⟩) (fun c u y => nomatch (show (none : Option HO) = some u from y)) (fun c y => absurd rfl y) fun y => absurd rfl y
  | none =>
    refine main (fun c => if c = at0 then some (.frz { cls := .type "list", data := .seq vs.toArray } (.lst (ns.map V.int))) else none) (fun c => ?_) (.inl (.inr ⟨{ cls := .type "list", data := .seq vs.toArray }, if_pos rfl⟩)) (fun c u y => ?_) (fun c y => ?_) fun _ => lk
    · by_cases hc : c = at0
      · exact .inr ⟨_, _, if_pos hc⟩
      · exact .inl (if_neg hc)
    · by_cases hc : c = at0
      · have y2 := (if_pos hc).symm.trans y
        cases y2
        subst hc
        exact ⟨obj, by rw [List.length_map]; exact few, vs, _, rel, obj⟩
      · have y2 := (if_neg hc).symm.trans y
        cases y2
    · by_cases hc : c = at0
      · exact hc
      · exact absurd (if_neg hc) y
/-- the goal of the head, by the law's promise -/
theorem walkG {l : PySem.W.OpenLaw} {n k : Nat} {q : Program} {loose : List Str} {XP : (Str → Option Value) → Heap → Prop} {YP : World → Heap → Prop} {d : DefRec} {K : Params → PySem.W.Frag} {sp : PySem.W.Frag → Sp} {x : Str} (most : l.most = some n) (few : n ≤ sizeLine) (nodef : d.params.defaults = []) (room : Room k callerA)
    (inn : ∀ (v : World) (m : Heap), YP v m → (K v.params).In m)
    (F : ∀ (v : World) (mg : Str → Option Value) (fa : Addr) (m : Heap), (K v.params).In m → m.Ns mainGlobals mg → mg d.name = some (.ref fa) → ∃ fd : FuncData, (∀ (s : Shared) (u : Value), BindsTo s fd ⟨[u], []⟩ [(x, u)]) ∧ ∀ base : Heap, (K v.params).In base → base.Ns mainGlobals mg → FnG l.prog v (K v.params) mg base CX0 k fa fd [x] (sp (K v.params)))
    (prom : ∀ (K : PySem.W.Frag) (H : Hp) (c : Addr) (ns : List Int), ns.length ≤ n → SqL K H c (ns.map V.int) → sp K [.ref c] H (fun v _ => v = .bl true) E0) : PySem.W.WalkO q loose XP YP l.row.toRowW d [] (fun f vs => PySem.call f vs) := by
  refine Att.attach_call most nodef fun v z0 z1 mg mb fa o pm cd doc c vs ns G Y ho hd hcd hmg hobj hints hlen hg => ?_
  have KX := inn v _ Y
  obtain ⟨fd, hb, hF⟩ := F v mg fa _ KX G.T.g hmg
  exact lawG KX G.T.g G.T.b G.T.builtins G.T.nolimit hg hobj hints (Nat.le_trans hlen few) room hF hb fun H _ hS => prom _ H c ns hlen hS
end Wk

/-! Wk25: repr of data. -/
namespace Wk
open PySem L2

def rRepr (K : PySem.W.Frag) : List V → Hp → VK → Prop := fun xs H Q => ∃ (v : V) (d : PyData), xs = [v] ∧ Dp K H v d ∧ d.showable = true ∧ d.hasDict = false ∧ d.depth ≤ 64 ∧ d.shown.length ≤ 16777216 ∧ Q (.str d.shown) H
theorem cr_repr {X : Cx} (gd : X.A.guards = some []) (room : X.A.units + 66 < cLine) : CallR X (.builtin "repr") (rRepr X.K) := by
  intro pins z σ H xs us Q I r h
  obtain ⟨v, d, rfl, hd, hs, hn, hdp, hz, q⟩ := h
  obtain ⟨u, rfl, ru⟩ := Vals.one r
  have fin : ∀ (m : Heap) (t : Tok) (tk : Nat), (∀ b o, z.heap.get? b = some o → m.get? b = some o) → EP X pins σ Q (.str d.shown t) { z with heap := m, toks := tk } := fun m t tk k => ⟨.str d.shown, H, I.kept k, ⟨t, rfl⟩, q⟩
  have big : d.shown.length ≤ sizeLine := by rw [sizeLine_eq]; exact hz
  cases hd with
  | non => cases ru; exact PySem.P.repr_of_none (fin _ _ _ fun _ _ e => e)
  | bl b => cases ru; exact PySem.P.repr_of_bool (by have := fin z.heap z.toks (z.toks + 1) fun _ _ e => e; cases b <;> exact this)
  | int i =>
    obtain ⟨t, rfl⟩ := ru
    exact PySem.P.repr_of_int (by simpa [PyData.showable] using hs) (fin _ _ _ fun _ _ e => e)
  | str x =>
    obtain ⟨t, rfl⟩ := ru
    exact PySem.P.repr_of_str (fin _ _ _ fun _ _ e => e) big
  | lst h1 h2 =>
    obtain ⟨as, rd⟩ := Dp.reads I _ _ _ (Dp.lst h1 h2) ru
    cases ru
    exact PySem.repr_of_reads' rd hs (PyData.noDict_hsm hn) gd (by omega) (fun _ _ e => e) (fun m t tk k => fin m t tk k) big
  | tup h1 h2 =>
    obtain ⟨as, rd⟩ := Dp.reads I _ _ _ (Dp.tup h1 h2) ru
    cases ru
    exact PySem.repr_of_reads' rd hs (PyData.noDict_hsm hn) gd (by omega) (fun _ _ e => e) (fun m t tk k => fin m t tk k) big
section
variable {ι : Type} {X : ι → Cx} {S : Sit} {sl sl1 : List Slot} {α : Type} [Rep α] {a : α} {e : Expr} {pos p1 : Pos}
/-- what repr tells -/
def rpr [Dta α] (a : α) : Txt := (Dta.pd a).shown.cps.toList
structure Told [Dta α] (a : α) : Prop where
  show1 : (Dta.pd a).showable = true
  nod : (Dta.pd a).hasDict = false
  dep : (Dta.pd a).depth ≤ 64
  short : (Dta.pd a).shown.length ≤ 16777216
theorem x_repr [Dta α] (f : Fam X S) (h : E X e sl sl1 a) (t : Told a) (hg : ∀ i, Gl (X i) "repr") (hm : S.mg "repr" = none) (he : ∀ i, starEach [e] (X i).env = (false, eval e (X i).env) :: starEach [] (X i).env := by intro _; rfl) : E X (.Call (.Name "repr" p1) [e] [] pos) sl sl1 (rpr a) :=
  x_callB f (r := rRepr S.K) (fun i => by
    have y := cr_repr (X := X i) (f.gd i) (by have := (f.room i).un; omega)
    rw [f.K i] at y
    exact y) (a_v h a_nil he) (fun σ F H H0 vs g hA Q q => by
    obtain ⟨v, rfl, hv⟩ := args1 hA
    exact ⟨v, _, rfl, Dta.dp g.sub hv, t.show1, t.nod, t.dep, t.short, q _ (by unfold rpr; show V.str _ = V.str _; rw [← tx_of])⟩) hg hm (by decide +kernel) (he := he)
end
end Wk

/-! Wk26: a slot's dict: made, asked, stored, its length; a for over a tuple. -/
namespace Wk
open PySem L2

section
variable {ι : Type} {X : ι → Cx} {S : Sit} {sl sl1 sl2 sl3 : List Slot} {α β ρ : Type} [Rep α] [Rep β] [Rep ρ] {a : α} {b : β} {e e1 e2 e3 tg : Expr} {pos p1 p2 p3 pos' : Pos} {x : Str}
/-- {} -/
theorem x_dnew : EN X (.Dict [] [] pos) sl sl (cdk []) :=
  ⟨tDNewK, fun i => pe_dnewK, rfl, fun σ F H r Q q p hp => new_end (sl := sl) q (.refl _ _ _) r rfl p hp⟩
/-- a slot's dict, as it stands -/
theorem dict_read {F H : Hp} {σ : L2.St} {j : Nat} {kvs : List (Key × V)} (g : Reg F H σ sl) (hj : Holds sl j (cdk kvs)) : ∃ p, σ[j]? = some (some (.ref p)) ∧ H p = some (.dK kvs) := by
  obtain ⟨s, h1, h2⟩ := hj.ex
  obtain ⟨p, e1, ⟨_, o, ho, hc⟩, _, _⟩ := g.lend h1 h2
  have : o = .dK kvs := hc
  subst this
  exact ⟨p, e1, ho⟩
/-- text not in d, text in d -/
theorem t_dnotin {kvs : List (Key × V)} {k : Txt} (f : Fam X S) (j : Nat) (hN : S.N[j]? = some x) (hv : ∀ i, Vis (X i).env.scope x) (h : E X e1 sl sl1 k) (hj : Holds sl1 j (cdk kvs)) (hd : (x == ("__debug__" : Str)) = false := by decide) (hcd : (x == ("__classdict__" : Str)) = false := by decide) (hm : behindInMarks .NotIn (.Name x p1) = false := by rfl) :
    T X (.Compare e1 [.NotIn] [.Name x p1] pos) sl sl1 (!(valV kvs (Sum.inr (tx k))).isSome) := by
  obtain ⟨te, a1, a2⟩ := h
  refine ⟨_, fun i => pt_cmp (pc_dnotin (by have := (f.room i).un; omega) (a1 i) (pe_var (i := j) (by rw [f.N i]; exact hN) (hv i) hd hcd)) hm, a2.1, fun σ F H r Q q => a2.2 σ F H r _ fun v F1 H1 s1 r1 hv => ?_⟩
  obtain ⟨p, e, hp⟩ := dict_read r1 hj
  refine ⟨.ref p, e, p, _, rfl, ?_, _, rfl, q F1 H1 s1 r1⟩
  rw [show v = _ from hv]
  exact DGet.k (k := Sum.inr (tx k)) hp
theorem t_din {kvs : List (Key × V)} {k : Txt} (f : Fam X S) (j : Nat) (hN : S.N[j]? = some x) (hv : ∀ i, Vis (X i).env.scope x) (h : E X e1 sl sl1 k) (hj : Holds sl1 j (cdk kvs)) (hd : (x == ("__debug__" : Str)) = false := by decide) (hcd : (x == ("__classdict__" : Str)) = false := by decide) (hm : behindInMarks .In (.Name x p1) = false := by rfl) :
    T X (.Compare e1 [.In] [.Name x p1] pos) sl sl1 (valV kvs (Sum.inr (tx k))).isSome := by
  obtain ⟨te, a1, a2⟩ := h
  refine ⟨_, fun i => pt_cmp (pc_din (by have := (f.room i).un; omega) (a1 i) (pe_var (i := j) (by rw [f.N i]; exact hN) (hv i) hd hcd)) hm, a2.1, fun σ F H r Q q => a2.2 σ F H r _ fun v F1 H1 s1 r1 hv => ?_⟩
  obtain ⟨p, e, hp⟩ := dict_read r1 hj
  refine ⟨.ref p, e, p, _, rfl, ?_, _, rfl, q F1 H1 s1 r1⟩
  rw [show v = _ from hv]
  exact DGet.k (k := Sum.inr (tx k)) hp
/-- len of a slot's dict -/
theorem x_lenD {kvs : List (Key × V)} (f : Fam X S) (j : Nat) (hN : S.N[j]? = some x) (hv : ∀ i, Vis (X i).env.scope x) (hj : Holds sl j (cdk kvs)) (hg : ∀ i, Gl (X i) "len") (hm : S.mg "len" = none) (hd : (x == ("__debug__" : Str)) = false := by decide) (hcd : (x == ("__classdict__" : Str)) = false := by decide) :
    E X (.Call (.Name "len" p1) [.Name x p2] [] pos) sl sl (kvs.length : Int) :=
  x_callB f (fun _ => call_lenD) (a_s f j hN hv hj a_nil hd hcd (fun _ => rfl)) (fun σ F H H0 vs g hA Q q => by
    obtain ⟨v, rfl, hv⟩ := argsS hA
    obtain ⟨p, e, hp⟩ := dict_read g hj
    rw [hv] at e
    have ev : v = .ref p := by simpa using e
    subst ev
    exact ⟨p, kvs, rfl, hp, q _ rfl⟩) hg hm PySem.boot_len (he := fun _ => rfl)
/-- d[text] = a text -/
theorem g1_dput {kvs : List (Key × V)} {k c : Txt} (f : Fam X S) (j : Nat) (hN : S.N[j]? = some x) (hv : ∀ i, Vis (X i).env.scope x) (h : E X e sl sl1 c) (hi : E X e2 sl1 sl2 k) (hj0 : Holds sl1 j (cdk kvs)) (hj : Holds sl2 j (cdk kvs)) (few : kvs.length < 16777216)
    (hd : (x == ("__debug__" : Str)) = false := by decide) (hcd : (x == ("__classdict__" : Str)) = false := by decide) (hs : ∀ i, swapsWith e (some (.Subscript (.Name x p1) e2 pos')) pos.line (X i).env = pure false := by intro _; rfl) :
    G1 X (.Assign [.Subscript (.Name x p1) e2 pos'] e pos) sl (.next (putC sl2 j (cdk (L2.putK kvs (Sum.inr (tx k)) (V.str (tx c))))) : Out ρ) := by
  obtain ⟨te, a1, a2⟩ := h
  obtain ⟨ti, b1, b2⟩ := hi
  obtain ⟨s, hj1, hj2⟩ := hj.ex
  refine ⟨_, fun i => ps_dput (by have := (f.room i).un; omega) (pe_var (i := j) (by rw [f.N i]; exact hN) (hv i) hd hcd) (b1 i) (a1 i) (hs i), fun σ F H D r m => a2.2 σ F H r _ fun v F1 H1 s1 r1 hv => ?_⟩
  obtain ⟨p, e1, _⟩ := dict_read r1 hj0
  refine ⟨.ref p, e1, b2.2 σ F1 H1 r1 _ fun y F2 H2 s2 r2 hy => ?_⟩
  obtain ⟨p', e1', ⟨fp, o, ho, hc⟩, hm, wr⟩ := r2.lend hj1 hj2
  have ep : p' = p := by
    rw [e1] at e1'
    simpa using e1'.symm
  subst ep
  have ho' : o = .dK kvs := hc
  subst ho'
  have ev : v = V.str (tx c) := hv
  have ey : y = V.str (tx k) := hy
  subst ev
  subst ey
  have sw : Stp [p'] F2 H2 F2 (upd H2 p' (.dK (L2.putK kvs (Sum.inr (tx k)) (V.str (tx c))))) := stp_write (by rw [ho]; simp)
  obtain ⟨r3, s3⟩ := wr F2 _ (cdk (L2.putK kvs (Sum.inr (tx k)) (V.str (tx c)))) sw (same_write r2.sub fp) ⟨fp, _, upd_same, rfl⟩
  rw [putC_eq _ hj1] at m
  refine ⟨p', _, rfl, DPut.k (k := Sum.inr (tx k)) ho (by rw [sizeLine_eq]; exact few), m σ F2 _ ?_ r3 (.same (a2.1.trans (b2.1.trans (kd_set _ hj1))))⟩
  have s12 : Stp (owns σ sl) F H F2 H2 := s1.trans s2 fun p hp => .inl (by rw [owns_kd a2.1]; exact hp)
  exact s12.trans s3 fun p hp => .inl (by rw [owns_kd a2.1, owns_kd b2.1]; exact hp)
/-- a tuple, walked -/
theorem src_tup (f : Fam X S) {xs : List α} (h : E X e sl sl1 (Tup.mk xs)) (hs : ∀ i x, foldedSetIterable e (X i).env x = pure x := by intro _ _; rfl) : Src X tg e sl sl1 xs := by
  obtain ⟨te, h1, h2⟩ := h
  refine ⟨iTup S.K te, fun i => ?_, hs, h2.1, fun σ F H r R q => h2.2 σ F H r _ fun v F1 H1 s1 r1 hv => ?_⟩
  · have y := pi_tup (tg := tg) (h1 i)
    rw [f.K i] at y
    exact y
  · obtain ⟨p, vs, rfl, hp, hr⟩ := hv
    refine ⟨p, rfl, ⟨vs, SqT.of (r1.sub _ _ hp)⟩, q _ F1 H1 s1 r1 (Wlk.of (walk_tup (K := S.K) (a := p) (xs := vs)) hr.len (fun F2 H2 s2 s3 => SqT.of (s3 _ _ (s2 _ _ hp))) ?_)⟩
    intro i H2 y H3 F2 a ha s2 s3 yy
    obtain ⟨e, y2⟩ := yy
    subst e
    obtain ⟨v, hv, rv⟩ := hr.get ha
    rw [hv] at y2
    cases y2
    exact ⟨F2, .refl _ _ _, s3, Rep.mono s2 rv⟩
end
end Wk

/-! Wk27: min of a list of texts. -/
namespace Wk
open PySem L2

/-- the least of texts -/
def leastT : List Txt → Txt
  | [] => []
  | l :: ls => ls.foldl (fun m k => if k < m then k else m) l
def rMinT (K : PySem.W.Frag) : List V → Hp → VK → Prop := fun vs H Q => ∃ (a : Addr) (ls : List Txt), vs = [.ref a] ∧ SqL K H a (ls.map fun l => V.str (tx l)) ∧ ls ≠ [] ∧ Q (.str (tx (leastT ls))) H
theorem least_of (l : Txt) : ∀ ls : List Txt, PySem.W.minOf (tx l) (ls.map tx) = tx (ls.foldl (fun m k => if k < m then k else m) l) := by
  intro ls
  induction ls generalizing l with
  | nil => rfl
  | cons k ls ih =>
    have e : (if PySem.W.DatumOrd.lt (tx k) (tx l) = true then tx k else tx l) = tx (if k < l then k else l) := by
      have e1 : PySem.W.DatumOrd.lt (tx k) (tx l) = decide (k < l) := by
        show decide ((tx k).cps.toList < (tx l).cps.toList) = _
        rw [tx_cps, tx_cps]
      rw [e1]
      by_cases h : k < l
      · rw [if_pos (by simpa using h), if_pos h]
      · rw [if_neg (by simpa using h), if_neg h]
    have y := ih (if k < l then k else l)
    unfold PySem.W.minOf at y ⊢
    rw [List.map_cons, List.foldl_cons, List.foldl_cons, e]
    exact y
theorem hold_txs (m : Heap) : ∀ {vs : List Value} {ks : List Txt}, Vals (ks.map fun l => V.str (tx l)) vs → PySem.W.HoldAll m vs (ks.map tx)
  | _, [], r => by cases r; exact PySem.W.HoldAll.nil
  | _, k :: ks, r => by
    cases r with
    | cons h t =>
      obtain ⟨u, rfl⟩ := h
      exact PySem.W.HoldAll.cons ⟨_, Reads.str (tx k) u⟩ (hold_txs m t)
theorem holds_tx {m : Heap} {v : Value} {k : Txt} (h : PySem.W.Holds m v (tx k)) : RelV (.str (tx k)) v := by
  obtain ⟨as, rd⟩ := h
  cases rd with
  | str x t => exact ⟨t, rfl⟩
theorem room_tx {n : Nat} (h : n + 1 < cLine) : n + 1 + PySem.W.Datum.depth Str < cLine := h
theorem cr_minT {X : Cx} (hc : X.calm = true) (room : X.A.units + 1 < cLine) : CallR X (.builtin "min") (rMinT X.K) := by
  intro pins z σ H xs us Q I r h
  obtain ⟨a, ls, rfl, hs, hne, q⟩ := h
  obtain ⟨its, rv, hl, _⟩ := I.list hs
  rw [Vals.ref1 r]
  cases ls with
  | nil => exact absurd rfl hne
  | cons l ls =>
    have H1 : PySem.W.HoldAll z.heap its.toArray.toList (tx l :: ls.map tx) := by
      rw [List.toList_toArray]
      exact hold_txs z.heap (ks := l :: ls) rv
    refine PySem.W.min_list_datum (α := Str) (I.ok.hd hc) hl.isList H1 (room_tx room) fun i v m tk hi hv k => ?_
    rw [least_of] at hv
    exact ⟨.str (tx (leastT (l :: ls))), H, I.kept k, holds_tx hv, q⟩
section
variable {ι : Type} {X : ι → Cx} {S : Sit} {sl sl1 : List Slot} {e : Expr} {pos p1 : Pos}
/-- min(list of texts) -/
theorem x_minT {ls : List Txt} (f : Fam X S) (h : E X e sl sl1 ls) (hne : ls ≠ []) (hg : ∀ i, Gl (X i) "min") (hm : S.mg "min" = none) (he : ∀ i, starEach [e] (X i).env = (false, eval e (X i).env) :: starEach [] (X i).env := by intro _; rfl) : E X (.Call (.Name "min" p1) [e] [] pos) sl sl1 (leastT ls) :=
  x_callB f (r := rMinT S.K) (fun i => by
    have y := cr_minT (X := X i) (f.calm i) (by have := (f.room i).un; omega)
    rw [f.K i] at y
    exact y) (a_v h a_nil he) (fun σ F H H0 vs g hA Q q => by
    obtain ⟨v, rfl, a, ws, rfl, ha, hr⟩ := args1 hA
    rw [Reps.flat] at hr
    subst hr
    exact ⟨a, ls, rfl, SqL.of (g.sub _ _ ha), hne, q _ rfl⟩) hg hm (by decide +kernel) (he := he)
theorem leastT_mem : ∀ {ls : List Txt}, ls ≠ [] → leastT ls ∈ ls ∧ ∀ k ∈ ls, ¬ k < leastT ls
  | [], h => absurd rfl h
  | l :: ls, _ => by
    have aux : ∀ (ls : List Txt) (l : Txt), (ls.foldl (fun m k => if k < m then k else m) l ∈ l :: ls) ∧ ∀ k ∈ l :: ls, ¬ k < ls.foldl (fun m k => if k < m then k else m) l := by
      intro ls
      induction ls with
      | nil => intro l; exact ⟨List.mem_cons_self .., fun k hk => by rw [List.mem_singleton.mp hk]; exact List.lt_irrefl _⟩
      | cons k ls ih =>
        intro l
        obtain ⟨i1, i2⟩ := ih (if k < l then k else l)
        rw [List.foldl_cons]
        constructor
        · rcases List.mem_cons.mp i1 with y | y
          · rw [y]
            split
            · exact List.mem_cons_of_mem _ (List.mem_cons_self ..)
            · exact List.mem_cons_self ..
          · exact List.mem_cons_of_mem _ (List.mem_cons_of_mem _ y)
        · intro q hq
          have i3 := i2 _ (List.mem_cons_self ..)
          rcases List.mem_cons.mp hq with y | y
          · subst y
            intro lt
            by_cases c : k < q
            · rw [if_pos c] at i3 lt
              exact i3 (List.lt_trans c lt)
            · rw [if_neg c] at i3 lt
              exact i3 lt
          · rcases List.mem_cons.mp y with y | y
            · subst y
              intro lt
              by_cases c : q < l
              · rw [if_pos c] at i3 lt
                exact i3 lt
              · rw [if_neg c] at i3 lt
                exact i3 (List.lt_of_le_of_lt (List.not_lt.mp c) lt)
            · exact i2 q (List.mem_cons_of_mem _ y)
    exact aux ls l
end
end Wk

/-! Wk28: list.extend, find and rfind of a text, a list of two unpacked. -/
namespace Wk
open PySem L2

section
variable {ι : Type} {X : ι → Cx} {S : Sit} {sl sl1 sl2 sl3 : List Slot} {α β ρ : Type} [Rep α] [Rep β] [Rep ρ] {a : α} {b : β} {e e1 e2 e3 tg : Expr} {pos p1 p2 p3 pos' apos cpos : Pos} {x : Str}
theorem Reps.both : ∀ {F : Hp} {vs ws : List V} {xs ys : List α}, Reps F vs xs → Reps F ws ys → Reps F (vs ++ ws) (xs ++ ys)
  | _, [], _, [], _, _, h => h
  | _, v :: vs, _, x :: xs, _, h1, h2 => ⟨h1.1, Reps.both h1.2 h2⟩
  | _, [], _, _ :: _, _, h, _ => h.elim
  | _, _ :: _, _, [], _, h, _ => h.elim
/-- x.extend(a list) -/
theorem x_ext {xs0 xs ys : List α} (f : Fam X S) (j : Nat) (hN : S.N[j]? = some x) (hv : ∀ i, Vis (X i).env.scope x) (h : E X e sl sl1 ys) (hj0 : Holds sl j (cl xs0)) (hj : Holds sl1 j (cl xs)) (hl : xs.length + ys.length ≤ 16777216)
    (hd : (x == ("__debug__" : Str)) = false := by decide) (hcd : (x == ("__classdict__" : Str)) = false := by decide) (hbase : ∀ i, attributeBase (.Name x p1) "extend" (X i).env (eval (.Name x p1) (X i).env) = eval (.Name x p1) (X i).env := by intro _; rfl)
    (hfew : ∀ i, ((backTo cpos (starEach [e] (X i).env)).all (fun x => !x.1) && (backToKw cpos (keywordEach [] (X i).env)).all (fun x => x.1.isSome) && decide ([e].length + ([] : List Keyword).length + (if ([] : List Keyword).isEmpty then 0 else 1) < 30)) = true := by intro _; rfl)
    (hline : (apos.endLine == cpos.line) = true := by rfl) (he : ∀ i, starEach [e] (X i).env = (false, eval e (X i).env) :: starEach [] (X i).env := by intro _; rfl) :
    E X (.Call (.Attribute (.Name x p1) "extend" apos) [e] [] cpos) sl (putC sl1 j (cl (xs ++ ys))) () :=
  x_methO f PySem.F.slot_list_extend PySem.F.type_list_extend (fun _ => mt_extend) j hN hv (a_v h a_nil he) hj0 hj (fun σ F H H0 vs p ws g hA hp fp hr Q q => by
    obtain ⟨v, rfl, b, zs, rfl, hb, hz⟩ := args1 hA
    exact ⟨p, b, ws, zs, rfl, rfl, hp, g.sub _ _ hb, by rw [hr.len, hz.len, sizeLine_eq]; exact hl, q _ _ (hr.both hz) rfl⟩) hd hcd hbase hfew hline he (fun _ => rfl)
/-- a.find(b), a.rfind(b) -/
theorem x_find {k l : Txt} (f : Fam X S) (ho : E X e1 sl sl1 k) (h : E X e sl1 sl2 l) (hs : ∀ i, starEach [e] (X i).env = [(false, eval e (X i).env)] := by intro _; rfl)
    (hbase : ∀ i, attributeBase e1 "find" (X i).env (eval e1 (X i).env) = eval e1 (X i).env := by intro _; rfl) (hline : (apos.endLine == pos.line) = true := by rfl) : E X (.Call (.Attribute e1 "find" apos) [e] [] pos) sl sl2 (Txt.find (tx k) (tx l) : Int) := by
  obtain ⟨to, o1, o2⟩ := ho
  obtain ⟨te, a1, a2⟩ := h
  refine ⟨_, fun i => pe_m1 PySem.F.slot_str_find PySem.F.type_str_find mt_find (o1 i) (a1 i) (hs i) (hbase i) hline, o2.1.trans a2.1, fun σ F H r Q q => ?_⟩
  refine o2.2 σ F H r _ fun v F1 H1 s1 r1 hv => ⟨⟨_, hv⟩, a2.2 σ F1 H1 r1 _ fun w F2 H2 s2 r2 hw => ?_⟩
  exact ⟨tx k, tx l, hv, by rw [show w = V.str (tx l) from hw], q _ F2 H2 (s1.trans s2 fun p hp => .inl (by rw [owns_kd o2.1]; exact hp)) r2 rfl⟩
theorem x_rfind {k l : Txt} (f : Fam X S) (ho : E X e1 sl sl1 k) (h : E X e sl1 sl2 l) (hs : ∀ i, starEach [e] (X i).env = [(false, eval e (X i).env)] := by intro _; rfl)
    (hbase : ∀ i, attributeBase e1 "rfind" (X i).env (eval e1 (X i).env) = eval e1 (X i).env := by intro _; rfl) (hline : (apos.endLine == pos.line) = true := by rfl) : E X (.Call (.Attribute e1 "rfind" apos) [e] [] pos) sl sl2 (Txt.rfind (tx k) (tx l) : Int) := by
  obtain ⟨to, o1, o2⟩ := ho
  obtain ⟨te, a1, a2⟩ := h
  refine ⟨_, fun i => pe_m1 PySem.F.slot_str_rfind PySem.F.type_str_rfind mt_rfind (o1 i) (a1 i) (hs i) (hbase i) hline, o2.1.trans a2.1, fun σ F H r Q q => ?_⟩
  refine o2.2 σ F H r _ fun v F1 H1 s1 r1 hv => ⟨⟨_, hv⟩, a2.2 σ F1 H1 r1 _ fun w F2 H2 s2 r2 hw => ?_⟩
  exact ⟨tx k, tx l, hv, by rw [show w = V.str (tx l) from hw], q _ F2 H2 (s1.trans s2 fun p hp => .inl (by rw [owns_kd o2.1]; exact hp)) r2 rfl⟩
/-- a, b = a list of two -/
theorem tg_lst2 (f : Fam X S) {t1 t2 : Expr} {k : Nat} {js ks : List Nat} {a b : α} (h1 : Tg X t1 js a sl sl1) (h2 : Tg X t2 ks b sl1 sl2) (hn : ∀ i, (assignEach [t1, t2] (X i).env).length = 2 := by intro _; rfl) (hst : ∀ i, (assignEach [t1, t2] (X i).env).findIdx? (·.1) = none := by intro _; rfl)
    (ha : ∀ i, (assignEach [t1, t2] (X i).env).map (·.2) = assign t1 (X i).env :: (assignEach [t2] (X i).env).map (·.2) := by intro _; rfl) (ha2 : ∀ i, (assignEach [t2] (X i).env).map (·.2) = assign t2 (X i).env :: (assignEach [] (X i).env).map (·.2) := by intro _; rfl) :
    Tg X (.Tuple [t1, t2] k pos) (js ++ ks) [a, b] sl sl2 := by
  obtain ⟨g1, a1, b1⟩ := h1
  obtain ⟨g2, a2, b2⟩ := h2
  refine ⟨gUnl S.K 2 (gCons g1 (gCons g2 gNil)), fun i => ?_, fun σ F H v r hv Q q => ?_⟩
  · have z := pg_unl (pos := pos) (k := k) (f.calm i) (pgs_cons (a1 i) (pgs_cons (a2 i) pgs_nil (ha2 i)) (ha i)) (hn i) (hst i)
    rw [f.K i] at z
    exact z
  · obtain ⟨p, vs, rfl, hp, hr⟩ := hv
    match vs, hr with
    | [x, y], ⟨hx, hy, _⟩ =>
      refine ⟨p, [x, y], rfl, SqL.of (r.sub _ _ hp), rfl, x, [y], rfl, ?_⟩
      refine b1 σ F H x r hx _ fun σ1 r1 o1 s1 k1 => ⟨y, [], rfl, ?_⟩
      refine b2 σ1 F H y r1 hy _ fun σ2 r2 o2 s2 k2 => ⟨rfl, ?_⟩
      exact q σ2 r2 (o1.trans (F := F) (F1 := F) o2 fun _ z => z) (fun p hp => s1 p (s2 p hp)) fun k hk => (k2 k fun z => hk (List.mem_append.mpr (.inr z))).trans (k1 k fun z => hk (List.mem_append.mpr (.inl z)))
end
end Wk

/-! Wk29: order of texts, a text in a list of texts, tuple(list). -/
namespace Wk
open PySem L2

section
variable {ι : Type} {X : ι → Cx} {S : Sit} {sl sl1 sl2 sl3 : List Slot} {α β ρ : Type} [Rep α] [Rep β] [Rep ρ] {a : α} {b : β} {e e1 e2 e3 tg : Expr} {pos p1 p2 p3 pos' apos cpos : Pos} {x : Str}
variable (f : Fam X S)
include f
theorem x_ltT {i j : Txt} (ha : E X e1 sl sl1 i) (hb : E X e2 sl1 sl2 j) : E X (.Compare e1 [.Lt] [e2] pos) sl sl2 (decide (i < j)) := x_cmp f (fun _ => op_lt_str) ha hb (nomark _) fun F H x y _ hx hy Q q => ⟨tx i, tx j, hx, hy, by rw [tx_cps, tx_cps]; exact q⟩
theorem t_ltT {i j : Txt} (ha : E X e1 sl sl1 i) (hb : E X e2 sl1 sl2 j) : T X (.Compare e1 [.Lt] [e2] pos) sl sl2 (decide (i < j)) := t_cmp f (fun _ => op_lt_str) ha hb (nomark _) fun F H x y _ hx hy Q q => ⟨tx i, tx j, hx, hy, by rw [tx_cps, tx_cps]; exact q⟩
omit f in
theorem inV_txt {k : Txt} : ∀ {ls : List Txt}, inV (V.str (tx k)) (ls.map fun l => V.str (tx l)) = decide (k ∈ ls)
  | [] => by simp [inV]
  | l :: ls => by
    have y := inV_txt (k := k) (ls := ls)
    unfold inV at y ⊢
    rw [List.map_cons, List.any_cons, y]
    have e : eqV (V.str (tx l)) (V.str (tx k)) = decide (k = l) := by
      show (tx l == tx k) = _
      by_cases h : k = l
      · rw [h, decide_eq_true rfl]
        exact beq_self_eq_true _
      · rw [decide_eq_false h]
        exact beq_eq_false_iff_ne.mpr fun z => h (tx_inj z).symm
    rw [e]
    by_cases h : k = l <;> by_cases h2 : k ∈ ls <;> simp [h, h2]
theorem x_inLT {k : Txt} {ls : List Txt} (ha : E X e1 sl sl1 k) (hb : E X e2 sl1 sl2 ls) (hm : behindInMarks .In e2 = false := by rfl) : E X (.Compare e1 [.In] [e2] pos) sl sl2 (decide (k ∈ ls)) :=
  x_cmp f (r := rIn S.K false) (fun i => by
    have y := op_in_seq (X := X i)
    rw [f.K i] at y
    exact y) ha hb hm fun F H x y sm hx ⟨p, vs, e, h1, h2⟩ Q q => by
    rw [Reps.flat] at h2
    subst h2
    cases hx
    refine ⟨p, _, e, .inl (SqL.of (sm _ _ h1)), rfl, ?_, ?_⟩
    · rw [List.all_eq_true]
      intro v hv
      obtain ⟨l, _, rfl⟩ := List.mem_map.mp hv
      rfl
    · have z : inV (Flat.toV k) (ls.map Flat.toV) = decide (k ∈ ls) := inV_txt
      rw [z]
      exact q
theorem t_notInLT {k : Txt} {ls : List Txt} (ha : E X e1 sl sl1 k) (hb : E X e2 sl1 sl2 ls) (hm : behindInMarks .NotIn e2 = false := by rfl) : T X (.Compare e1 [.NotIn] [e2] pos) sl sl2 (!decide (k ∈ ls)) :=
  t_cmp f (r := rIn S.K true) (fun i => by
    have y := op_notIn_seq (X := X i)
    rw [f.K i] at y
    exact y) ha hb hm fun F H x y sm hx ⟨p, vs, e, h1, h2⟩ Q q => by
    rw [Reps.flat] at h2
    subst h2
    cases hx
    refine ⟨p, _, e, .inl (SqL.of (sm _ _ h1)), rfl, ?_, ?_⟩
    · rw [List.all_eq_true]
      intro v hv
      obtain ⟨l, _, rfl⟩ := List.mem_map.mp hv
      rfl
    · have z : inV (Flat.toV k) (ls.map Flat.toV) = decide (k ∈ ls) := inV_txt
      rw [z]
      exact q
theorem t_inLT {k : Txt} {ls : List Txt} (ha : E X e1 sl sl1 k) (hb : E X e2 sl1 sl2 ls) (hm : behindInMarks .In e2 = false := by rfl) : T X (.Compare e1 [.In] [e2] pos) sl sl2 (decide (k ∈ ls)) :=
  t_cmp f (r := rIn S.K false) (fun i => by
    have y := op_in_seq (X := X i)
    rw [f.K i] at y
    exact y) ha hb hm fun F H x y sm hx ⟨p, vs, e, h1, h2⟩ Q q => by
    rw [Reps.flat] at h2
    subst h2
    cases hx
    refine ⟨p, _, e, .inl (SqL.of (sm _ _ h1)), rfl, ?_, ?_⟩
    · rw [List.all_eq_true]
      intro v hv
      obtain ⟨l, _, rfl⟩ := List.mem_map.mp hv
      rfl
    · have z : inV (Flat.toV k) (ls.map Flat.toV) = decide (k ∈ ls) := inV_txt
      rw [z]
      exact q
/-- tuple(a list) -/
theorem x_tupL {xs : List α} (h : E X e sl sl1 xs) (hg : ∀ i, Gl (X i) "tuple") (hm : S.mg "tuple" = none) (na : ∀ i, starEach [e] (X i).env = (false, eval e (X i).env) :: starEach [] (X i).env := by intro _; rfl) : E X (.Call (.Name "tuple" p1) [e] [] pos) sl sl1 (Tup.mk xs) := by
  obtain ⟨t, a1, a2⟩ := h
  refine ⟨tThen t (kTup S.K), fun i => ?_, a2.1, fun σ F H r Q q => a2.2 σ F H r _ fun v F1 H1 s1 r1 hv => ?_⟩
  · have y := pe_tupleOf (p := p1) (pos := pos) (hg i) (by rw [f.mg i]; exact hm) (a1 i) (na i)
    rw [f.K i] at y
    exact y
  · obtain ⟨p0, vs, rfl, h0, hr⟩ := hv
    refine .inl ⟨p0, vs, rfl, SqL.of (r1.sub _ _ h0), fun p hp => ?_⟩
    have fp : F1 p = none := by
      cases y : F1 p with
      | none => rfl
      | some u => rw [r1.sub p u y] at hp; cases hp
    have hn : p ∉ owns σ sl1 := fun y => (Slots.owned r1.ok p y).2 hp
    refine q (.ref p) (upd F1 p (.tup vs)) _ (stp_frz (s1.trans (stp_new (os := owns σ sl) hp) fun b hb => .inl hb) (s1.free hp) fp) ((r1.new hp).frz fp upd_same hn) ⟨p, vs, rfl, upd_same, ?_⟩
    exact hr.mono fun b u e => by rw [upd_ne (ne_of_none e fp)]; exact e
end
end Wk

/-! Wk30: name = [elt for y in iter if ..] where the name is the function's own (the stores are swapped). -/
namespace Wk
open PySem L2

section
variable {ι : Type} {X : ι → Cx} {S : Sit} {sl sl1 sl2 sl3 : List Slot} {α β ρ : Type} [Rep α] [Rep β] [Rep ρ] {a : α} {b : β} {e e1 e2 e3 tg elt iter : Expr} {pos p1 p2 p3 pos' apos cpos spos : Pos} {x : Str} {scope : Scope}
theorem g1_lcP {ifs : List Expr} (f : Fam X S) {xs : List α} {own : List (Str × Nat)} {js : List Nat} (j : Nat) {y : Str} (sb : α → List Slot) (p : α → Bool) (g : α → β)
    (hN : S.N[j]? = some y) (hyl : ∀ i, (X i).env.scope.names.lookup y = some .local) (hsrc : Src X tg iter sl sl1 xs) (hblk : ∀ i, BlkOk (X i).N (X i).env.scope scope own) (hg : ∀ x, Tg (blkF X scope) tg js x sl1 (sb x)) (hjs : ∀ j ∈ js, j ∈ own.map (·.2))
    (hno : ∀ j ∈ own.map (·.2), ∀ s, sl1[j]? = some s → s = Slot.no) (hlen : xs.length ≤ 16777216) (hb : ∀ (i : Nat) (x : α), xs[i]? = some x → ∃ s1, TIf (blkF X scope) ifs (sb x) s1 (p x) ∧ (p x = true → ∃ s2, E (blkF X scope) elt s1 s2 (g x) ∧ Wks s2 sl1) ∧ (p x = false → Wks s1 sl1))
    (hsw : ∀ i, swapsWith (.ListComp elt [⟨tg, iter, ifs, 0⟩] scope pos) (some (.Name y p1)) spos.line (X i).env = pure true := by intro _; rfl) :
    G1 X (.Assign [.Name y p1] (.ListComp elt [⟨tg, iter, ifs, 0⟩] scope pos) spos) sl (.next (sl1.set j (.own (cl ((xs.filter p).map g)))) : Out ρ) := by
  have k := g1_lcS (ρ := ρ) (pos := pos) (spos := spos) (p1 := p1) f j (fun _ : Unit => sl1) () (fun x _ => sb x) (fun (_ : Unit) x => ((), if p x = true then some (g x) else none)) hN hyl hsw hsrc hblk (Wks.refl _) rfl (fun x _ => hg x) hjs (fun _ => hno) (fun _ => rfl) hlen (fun i t x hx _ => by
    obtain ⟨s1, h1, h2, h3⟩ := hb i x hx
    show LTurn (blkF X scope) ifs elt (fun _ : Unit => sl1) (sb x) ((), if p x = true then some (g x) else none)
    by_cases h : p x = true
    · rw [if_pos h]
      obtain ⟨s2, k1, k2⟩ := h2 h
      rw [h] at h1
      exact ⟨s1, s2, h1, k1, k2⟩
    · rw [if_neg h]
      rw [Bool.eq_false_iff.mpr h] at h1
      exact ⟨s1, h1, h3 (Bool.eq_false_iff.mpr h)⟩)
  rw [lcC_pure] at k
  exact k
theorem g1_lcN {ifs : List Expr} {z y : Str} (j k : Nat) (f : Fam X S) {xs : List α} (p : α → Bool) (g : α → β) (hM : S.N[j]? = some z) (hzl : ∀ i, (X i).env.scope.names.lookup z = some .local) (hsrc : Src X (.Name y p2) iter sl sl1 xs) (hblk : ∀ i, BlkOk (X i).N (X i).env.scope scope [(y, k)]) (hN : S.N[k]? = some y) (hx : ∀ i, Loc (blkF X scope i).env.scope y) (hf : ∀ i, (blkF X scope i).fn y = true ∨ (blkF X scope i).env.scope.names.lookup y = some .local)
    (hno : sl1[k]? = some .no) (hlen : xs.length ≤ 16777216) (hb : ∀ x, x ∈ xs → TIf (blkF X scope) ifs (sl1.set k (vl x)) (sl1.set k (vl x)) (p x) ∧ (p x = true → E (blkF X scope) elt (sl1.set k (vl x)) (sl1.set k (vl x)) (g x)))
    (hsw : ∀ i, swapsWith (.ListComp elt [⟨.Name y p2, iter, ifs, 0⟩] scope pos) (some (.Name z p1)) spos.line (X i).env = pure true := by intro _; rfl) :
    G1 X (.Assign [.Name z p1] (.ListComp elt [⟨.Name y p2, iter, ifs, 0⟩] scope pos) spos) sl (.next (sl1.set j (.own (cl ((xs.filter p).map g)))) : Out ρ) :=
  g1_lcP f (js := [k]) j (fun x => sl1.set k (vl x)) p g hM hzl hsrc hblk (fun x => tg_name (f.blk scope) k hN hx hf) (fun k hk => hk) (fun i hi s hs => by
    have e : i = k := by simpa using hi
    rw [e, hno] at hs
    exact (Option.some.inj hs).symm) hlen (fun i x hx => ⟨_, (hb x (List.mem_of_getElem? hx)).1, fun h => ⟨_, (hb x (List.mem_of_getElem? hx)).2 h, sb_wk hno⟩, fun _ => sb_wk hno⟩) hsw
end
end Wk

/-! Wk31: dict(zip(text, list of signs)). -/
namespace Wk
open PySem L2
theorem drawTL {P : Program} {w : World} {A : Around} (hh : A.handled = none) (it L : Addr) (hne : L ≠ it) (its : Array Value) (b : Txt) (hv : ∀ i v, its[i]? = some v → SgnAt b i v) :
    Draws P w A it [it, L] its.size (SgnAt b) (fun i m => m.IsListIter it L i ∧ m.IsList L its) where
  live := (Draws.list (prog := P) (w := w) hh it L hne its).live
  frame := (Draws.list (prog := P) (w := w) hh it L hne its).frame
  item := fun i s Q E hi st hQ => (Draws.list (prog := P) (w := w) hh it L hne its).item i s Q E hi st fun x h' tk px => hQ x h' tk (hv i x px)
  done := (Draws.list (prog := P) (w := w) hh it L hne its).done
theorem sgn_its : ∀ {b : Txt} {its : List Value}, Vals (b.map fun c => V.str (tx [c])) its → ∀ i v, its.toArray[i]? = some v → SgnAt b i v
  | [], _, r, i, v, h => by
    cases r
    simp at h
  | c :: b, _, r, i, v, h => by
    cases r with
    | cons r1 r2 =>
      obtain ⟨t, rfl⟩ := r1
      cases i with
      | zero =>
        simp at h
        exact ⟨c, t, rfl, h.symm⟩
      | succ i =>
        obtain ⟨d, u, e1, e2⟩ := sgn_its (b := b) r2 i v (by simpa using h)
        exact ⟨d, u, by simpa using e1, e2⟩
/-- the cells of a zip of a text and a list -/
structure ZipTL (m : Heap) (zp tin tout ia ib L : Addr) (a : Txt) (its : Array Value) (ta : Tok) (i : Nat) : Prop where
  tup : IsTupOf2 m tin (.ref ia) (.ref ib)
  one : m.IsStrIter ia (strIterType (tx a)) (tx a) ta i
  two : m.IsListIter ib L i ∧ m.IsList L its
theorem ZipTL.keep {m m' : Heap} {zp tin tout ia ib L : Addr} {a : Txt} {its : Array Value} {ta : Tok} {i : Nat} (h : ZipTL m zp tin tout ia ib L a its ta i) (k : ∀ c o, c = tin ∨ c = ia ∨ c = ib ∨ c = L → m.get? c = some o → m'.get? c = some o) : ZipTL m' zp tin tout ia ib L a its ta i :=
  ⟨k _ _ (.inl rfl) h.tup, let ⟨o, e, r⟩ := h.one; ⟨o, k _ o (.inr (.inl rfl)) e, r⟩, h.two.1.at fun o e => k _ o (.inr (.inr (.inl rfl))) e, h.two.2.at fun o e => k _ o (.inr (.inr (.inr rfl))) e⟩

set_option maxHeartbeats 8000000 in
/-- a zip of a text and a list of signs, as an argument of dict -/
theorem zipArgL {P : Program} {w : World} (zp tin tout ia ib L : Addr) (a b : Txt) (its : Array Value) (ta : Tok) (S : ZipSep2 zp tin tout ia ib [ia] [ib, L]) (hv : ∀ i v, its[i]? = some v → SgnAt b i v) (hs : its.size = b.length) (hLb : L ≠ ib) (hl : a.length ≤ b.length) :
    PairArg P w "zip" zp [zp, tin, tout, ia, ib, L] [zp, tout, ia, ib] a.length (fun i k v => SgnAt a i k ∧ SgnAt b i v)
      (fun m => IsZip m zp tin tout .none ∧ (∃ x y, IsTupOf2 m tout x y) ∧ ZipTL m zp tin tout ia ib L a its ta 0) where
  type := fun s ok => ⟨_, ok.1, rfl⟩
  notDict := by decide
  keep := fun m m' ok k => by
    obtain ⟨h1, ⟨x, y, h2⟩, h3⟩ := ok
    exact ⟨k _ _ h1, ⟨x, y, k _ _ h2⟩, h3.keep fun c o _ e => k c o e⟩
  there := fun m ok c hc => by
    obtain ⟨h1, ⟨x, y, h2⟩, ⟨h3, ⟨o1, h4, _⟩, ⟨⟨o2, h5, _⟩, ⟨o3, h6, _⟩⟩⟩⟩ := ok
    simp only [List.mem_cons, List.not_mem_nil, or_false] at hc
    rcases hc with q | q | q | q | q | q
    · subst q; exact ⟨_, h1⟩
    · subst q; exact ⟨_, h3⟩
    · subst q; exact ⟨_, h2⟩
    · subst q; exact ⟨_, h4⟩
    · subst q; exact ⟨_, h5⟩
    · subst q; exact ⟨_, h6⟩
  sub := fun c hc => by
    simp only [List.mem_cons, List.not_mem_nil, or_false] at hc ⊢
    rcases hc with q | q | q | q <;> simp [q]
  noKeys := fun A s Q E hA ok fin => getAttrOr_miss_zip ok.1 rfl rfl rfl zip_no_keys (by decide +kernel) hA fin
  iter := fun A s d Q E hA ok hd hn fin => by
    obtain ⟨h1, ⟨x, y, h2⟩, h3⟩ := ok
    simp only [List.mem_cons, List.not_mem_nil, or_false, not_or] at hn
    obtain ⟨d1, d2, d3, d4, d5, d6⟩ := hn
    have la : ∀ {c : Addr} {L : List Addr}, c ∉ L → ∀ {q : Addr}, q ∈ L → q ≠ c := fun h _ hq e => h (e ▸ hq)
    refine wpAny_pyIter_zip h1 (fin zp [zp, tout, ia, ib] (fun i m => ZipTL m zp tin tout ia ib L a its ta i ∧ ((IsZip m zp tin tout .none ∧ ∃ x y, IsTupOf2 m tout x y) ∨ ∃ T f oT, IsZipHeld m zp tin tout T f ∧ m.get? T = some oT ∧ T ≠ zp ∧ T ≠ ia ∧ T ≠ ib ∧ T ≠ d)) s.heap s.toks ?_
      ⟨h3, .inl ⟨h1, x, y, h2⟩⟩ (fun _ _ e => e) fun c hc => .inl hc)
    refine ⟨?_, ?_, ?_, ?_⟩
    · simp only [List.mem_cons, List.not_mem_nil, or_false, not_or]
      exact ⟨d1, d3, d4, d5⟩
    · rintro i m1 m2 ⟨g1, g2⟩ k
      refine ⟨g1.keep fun c o hc e => k c o ?_ e, ?_⟩
      · rcases hc with q | q | q | q
        · subst q; exact Ne.symm d2
        · subst q; exact Ne.symm d4
        · subst q; exact Ne.symm d5
        · subst q; exact Ne.symm d6
      · rcases g2 with ⟨g3, x, y, g4⟩ | ⟨T, f, oT, g3, g4, r1, r2, r3, r4⟩
        · exact .inl ⟨k _ _ (Ne.symm d1) g3, x, y, k _ _ (Ne.symm d3) g4⟩
        · exact .inr ⟨T, f, oT, k _ _ (Ne.symm d1) g3, k _ _ r4 g4, r1, r2, r3, r4⟩
    · rintro i s1 Q1 E1 hi ⟨g1, g2⟩ hds fin1
      have Da := drawTx (P := P) (w := w) (A := A.in1) hA ia a ta
      have Db := drawTL (P := P) (w := w) (A := A.in1) hA ib L hLb its b hv
      have big : ∀ {c o}, s1.heap.get? c = some o → s1.heap.objs.size ≠ c := fun e => Nat.ne_of_gt (Heap.lt_size e)
      have b1 : s1.heap.objs.size ≠ ia := by obtain ⟨o, e, _⟩ := g1.one; exact big e
      have b2 : s1.heap.objs.size ≠ ib := by obtain ⟨o, e, _⟩ := g1.two.1; exact big e
      rcases g2 with ⟨g3, x, y, g4⟩ | ⟨T, f, oT, g3, g4, r1, r2, r3, r4⟩
      · refine wpAny_pyNext_zipD2_item S Da Db g3 g1.tup g4 g1.one g1.two hi (by omega) fun u v m' tk hu hv z1 z2 s1' s2' z3 _ k => ?_
        refine fin1 s1.heap.objs.size u v m' tk ⟨hu, hv⟩ (.inl ⟨_, z3, rfl, _, rfl⟩) ⟨⟨k _ _ S.TIz S.TITO S.TIi1 S.TIi2 g1.tup, s1', s2'⟩, .inr ⟨s1.heap.objs.size, false, _, z1, z3, big g3, b1, b2, Nat.ne_of_gt hds⟩⟩ fun c o hc e => ?_
        simp only [List.mem_cons, List.not_mem_nil, or_false, not_or] at hc
        exact k c o hc.1 hc.2.1 hc.2.2.1 hc.2.2.2 e
      · refine pyNext_zipHeld S Da Db g3 g4 g1.tup g1.one g1.two hi (by omega) fun u v m' tk hu hv z1 s1' s2' z3 k => ?_
        refine fin1 s1.heap.objs.size u v m' tk ⟨hu, hv⟩ (.inl ⟨_, z3, rfl, _, rfl⟩) ⟨⟨k _ _ S.TIz S.TIi1 S.TIi2 g1.tup, s1', s2'⟩, .inr ⟨T, true, oT, z1, k _ _ r1 r2 r3 g4, r1, r2, r3, r4⟩⟩ fun c o hc e => ?_
        simp only [List.mem_cons, List.not_mem_nil, or_false, not_or] at hc
        exact k c o hc.1 hc.2.2.1 hc.2.2.2 e
    · rintro s1 Q1 E1 ⟨g1, g2⟩ fin1
      have Da := drawTx (P := P) (w := w) (A := A.in1) hA ia a ta
      have Db := drawTL (P := P) (w := w) (A := A.in1) hA ib L hLb its b hv
      rcases g2 with ⟨g3, x, y, g4⟩ | ⟨T, f, oT, g3, g4, r1, r2, r3, r4⟩
      · refine wpAny_pyNext_zipD2_end S Da Db g3 g1.tup g4 g1.one g1.two (Nat.le_refl _) (by omega) (.inl rfl) fun m' tk k => fin1 m' tk fun c o hc e => ?_
        simp only [List.mem_cons, List.not_mem_nil, or_false, not_or] at hc
        exact k c o hc.1 hc.2.1 hc.2.2.1 hc.2.2.2 e
      · refine pyNext_zipHeld_end S Da g3 g4 g1.tup g1.one fun m' k => fin1 m' s1.toks fun c o hc e => ?_
        simp only [List.mem_cons, List.not_mem_nil, or_false, not_or] at hc
        exact k c o hc.1 hc.2.2.1 e

set_option maxHeartbeats 8000000 in
theorem call_dict_zipL {P : Program} {w : World} {A : Around} {B : Value → Shared → Prop} {z : Shared} {zp tin tout ia ib L : Addr} {a b : Txt} {its : Array Value} {ta : Tok} {Q : Value → Shared → Prop} (S : ZipSep2 zp tin tout ia ib [ia] [ib, L]) (hv : ∀ i v, its[i]? = some v → SgnAt b i v) (hs : its.size = b.length) (hLb : L ≠ ib) (hl : a.length ≤ b.length) (hh : A.handled = none) (few : a.length ≤ 1000)
    (ok : IsZip z.heap zp tin tout .none ∧ (∃ x y, IsTupOf2 z.heap tout x y) ∧ ZipTL z.heap zp tin tout ia ib L a its ta 0)
    (fin : ∀ m' tk kvs, KV (mergeK [] (prsTx a b)) kvs → m'.DictOf (mixKind P w) z.heap.objs.size kvs → (∀ c o, c ∉ [zp, tout, ia, ib] → z.heap.get? c = some o → m'.get? c = some o) → Q (.ref z.heap.objs.size) { z with heap := m', toks := tk }) :
    wpAny (model P w) A (call (.type "dict") [.ref zp]) Q B z := by
  have plen : (prsTx a b).length = a.length := by unfold prsTx; rw [List.length_map, List.length_zip]; omega
  refine call_dict_arg (zipArgL zp tin tout ia ib L a b its ta S hv hs hLb hl) ok fun z1 e1 hdf ok1 => ?_
  subst e1
  refine updateFrom_arg (A := A.in1) (Tab := DzTab P w a b z.heap.objs.size) (zipArgL zp tin tout ia ib L a b its ta S hv hs hLb hl) .none hh ok1 hdf ⟨[], .nil, Heap.DictOf.new z.heap⟩ (fun i m h => by obtain ⟨_, _, h⟩ := h; exact h.lt_size)
    (fun i m m' L h1 _ h2 k => by obtain ⟨kvs, r, h⟩ := h2; exact ⟨kvs, r, h.at' fun o e => k _ o h1 e⟩) ?_ ?_
  · rintro i k v z2 Q2 B2 hi ⟨⟨c, u, hc, rfl⟩, ⟨d, u', hd, rfl⟩⟩ ⟨kvs, r, h⟩ _ fin2
    have hp : (prsTx a b)[i]? = some (Sum.inr (tx [c]), V.str (tx [d])) := by
      unfold prsTx
      rw [List.getElem?_map, (List.getElem?_zip_eq_some (z := (c, d))).mpr ⟨hc, hd⟩]
      rfl
    have hz : kvs.length ≤ i := by
      have h1 := r.length
      have h2 := length_mergeK ((prsTx a b).take i) []
      rw [List.length_take] at h2
      simp only [List.length_nil] at h2
      omega
    refine wpAny_dictSet_pairs (knd := mixKind P w) (k := Sum.inr (tx [c])) (hsz := by rw [sizeLine_eq]; omega) (kV_is (P := P) (w := w) (k := Sum.inr (tx [c])) ⟨u, rfl⟩) h fun m' h' hs => ?_
    refine fin2 m' _ ⟨_, ?_, h'⟩ hs
    have em : mergeK [] ((prsTx a b).take (i + 1)) = putK (mergeK [] ((prsTx a b).take i)) (Sum.inr (tx [c])) (V.str (tx [d])) := by
      unfold mergeK
      rw [List.take_add_one, hp, List.foldl_append]
      rfl
    rw [em]
    exact r.put (Sum.inr (tx [c])) (y := V.str (tx [d])) ⟨u', rfl⟩
  · rintro m' tk ⟨kvs, r, h⟩ k
    rw [List.take_of_length_le (Nat.le_of_eq plen)] at r
    exact ⟨rfl, fin m' tk kvs r h fun c o hc e => k c o (Nat.ne_of_lt (Heap.lt_size e)) hc (Heap.get?_push_of_some _ e)⟩
def tDzL (K : PySem.W.Frag) (t : TA) : TE := fun σ H Q => t σ H fun vs H1 => ∃ (a b : Txt) (L : Addr), vs = [.str (tx a), .ref L] ∧ SqL K H1 L (b.map fun c => V.str (tx [c])) ∧ a.length ≤ b.length ∧ a.length ≤ 1000 ∧ ∀ p, H1 p = none → Q (.ref p) (upd H1 p (.dK (mergeK [] (prsTx a b))))
theorem pe_dzL {X : Cx} {e1 e2 : Expr} {t : TA} {p p2 q pos : Pos} (hc : X.calm = true) (hg : Gl X "dict") (hm : X.mg "dict" = none) (hg2 : Gl X "zip") (hm2 : X.mg "zip" = none) (ha : PA X [e1, e2] t)
    (na : starEach [e1, e2] X.env = (false, eval e1 X.env) :: starEach [e2] X.env := by rfl) (hpl : (backTo q (starEach [e2] X.env)).any (·.1) = false := by rfl) : PE X (.Call (.Name "dict" p) [.Call (.Name "zip" p2) [e1, e2] [] q] [] pos) (tDzL X.K t) := by
  refine ⟨fun pins z σ H Q I h => ?_⟩
  refine PyProof.Rows.Call_ (ld_blt I hg hm PyProof.Rows.boot_dict ?_)
  refine PyProof.Rows.callWith_type1 (PyProof.Rows.args_cons ?_ rfl) rfl rfl
  refine wpAny_Call_Name_kw (ld_blt I hg2 hm2 PyProof.Rows.boot_zip ?_)
  refine PyProof.Rows.callWith_type1 (thn (ha.run q pins z σ H _ I h) fun us z1 ⟨vs, H1, I1, r1, q1⟩ => ?_) na hpl
  obtain ⟨a, b, L, rfl, hq, hl, few, fin⟩ := q1
  obtain ⟨u1, u2, rfl, ⟨ta, rfl⟩, ru⟩ := vals2 r1
  obtain rfl : u2 = .ref L := ru
  obtain ⟨its, rv, pl, hz⟩ := I1.list hq
  have hLs : L < z1.heap.objs.size := by
    obtain ⟨o, e, _⟩ := pl.isList
    exact Heap.lt_size e
  have far : ∀ k : Nat, z1.heap.objs.size + k ≠ L := fun k => Nat.ne_of_gt (Nat.lt_of_lt_of_le hLs (Nat.le_add_right _ _))
  refine zip_begins2 (begins_text (tx a) ta) (begins_list L its.toArray) trivial pl.isList fun m1 y1 y2 y3 y4 y5 y6 k1 => PyProof.Rows.args_nil ?_
  have S : ZipSep2 (z1.heap.objs.size + 4) (z1.heap.objs.size + 2) (z1.heap.objs.size + 3) z1.heap.objs.size (z1.heap.objs.size + 1) [z1.heap.objs.size] [z1.heap.objs.size + 1, L] := by
    constructor <;> first | omega | (simp only [List.mem_cons, List.not_mem_nil, or_false]; omega) | (simp; done) | (intro h; rcases List.mem_cons.mp h with h | h; (have h2 : (_ : Nat) = _ := h; omega); (first | exact absurd (List.mem_singleton.mp h) (far 0) | exact absurd (List.mem_singleton.mp h) (far _)))
  have I2 : Inv X pins σ H1 { z1 with heap := m1 } := I1.kept k1
  refine call_dict_zipL (z := { z1 with heap := m1 }) S (its := its.toArray) (sgn_its rv) (by rw [List.size_toArray, ← rv.length, List.length_map]) (fun e => far 1 e.symm) hl (I1.ok.hd hc) few ⟨y1, ⟨_, _, y3⟩, ⟨y2, ⟨_, y4, rfl, rfl⟩, ⟨_, y5, rfl, rfl⟩, pl.isList.at fun o e => k1 _ o e⟩⟩ fun m2 tk kvs r dd k2 => ?_
  have k3 : ∀ c o, z1.heap.get? c = some o → m2.get? c = some o := fun c o e => by
    refine k2 c o ?_ (k1 c o e)
    have lt := Heap.lt_size e
    simp only [List.mem_cons, List.not_mem_nil, or_false, not_or]
    exact ⟨Nat.ne_of_lt (Nat.lt_of_lt_of_le lt (by omega)), Nat.ne_of_lt (Nat.lt_of_lt_of_le lt (by omega)), Nat.ne_of_lt lt, Nat.ne_of_lt (Nat.lt_of_lt_of_le lt (by omega))⟩
  have hlen : (mergeK [] (prsTx a b)).length ≤ sizeLine := by
    have h1 := length_mergeK (prsTx a b) []
    have h2 : (prsTx a b).length ≤ a.length := by unfold prsTx; rw [List.length_map, List.length_zip]; omega
    rw [sizeLine_eq]
    simp only [List.length_nil] at h1
    omega
  have hbig : (m1.objs.size == sysModules) = false := beq_eq_false_iff_ne.mpr (Nat.ne_of_gt (Nat.lt_of_lt_of_le I1.big (by omega)))
  exact ⟨.ref m1.objs.size, upd H1 m1.objs.size (.dK (mergeK [] (prsTx a b))), I1.laid (t' := tk) k3 (by omega) (show ObjOk X.prog X.w _ _ _ (.dK _) from ⟨hlen, hbig, kvs, r, dd⟩), rfl, fin _ (I1.hok.fresh (by omega))⟩
section
variable {ι : Type} {X : ι → Cx} {S : Sit} {sl sl1 sl2 : List Slot} {e1 e2 : Expr} {pos p1 p2 p3 : Pos}
theorem x_dzL {a c : Txt} {ls : List Txt} (f : Fam X S) (h1 : E X e1 sl sl1 a) (h2 : E X e2 sl1 sl2 ls) (hls : ls = c.map fun d => ([d] : Txt)) (hl : a.length ≤ c.length) (few : a.length ≤ 1000) (hg : ∀ i, Gl (X i) "dict") (hm : S.mg "dict" = none) (hg2 : ∀ i, Gl (X i) "zip") (hm2 : S.mg "zip" = none)
    (na : ∀ i, starEach [e1, e2] (X i).env = (false, eval e1 (X i).env) :: starEach [e2] (X i).env := by intro _; rfl) (nb : ∀ i, starEach [e2] (X i).env = (false, eval e2 (X i).env) :: starEach [] (X i).env := by intro _; rfl)
    (hpl : ∀ i, (backTo p3 (starEach [e2] (X i).env)).any (·.1) = false := by intro _; rfl) : EN X (.Call (.Name "dict" p1) [.Call (.Name "zip" p2) [e1, e2] [] p3] [] pos) sl sl2 (cdk (mergeK [] (prsTx a c))) := by
  obtain ⟨t, a1, a2⟩ := a_v h1 (a_v h2 a_nil nb) na
  refine ⟨tDzL S.K t, fun i => ?_, a2.1, fun σ F H r Q q => a2.2 σ F H r _ fun vs F1 H1 s1 r1 hv => ?_⟩
  · have y := pe_dzL (p := p1) (p2 := p2) (q := p3) (pos := pos) (f.calm i) (hg i) (by rw [f.mg i]; exact hm) (hg2 i) (by rw [f.mg i]; exact hm2) (a1 i) (na i) (hpl i)
    rw [f.K i] at y
    exact y
  · obtain ⟨v, w, rfl, y1, L, ws, rfl, y2, y3⟩ := args2 hv
    rw [Reps.flat] at y3
    subst y3
    refine ⟨a, c, L, by rw [show v = _ from y1]; rfl, ?_, hl, few, fun p hp => new_end (sl := sl) q s1 r1 rfl p hp⟩
    have e : ls.map Flat.toV = c.map fun d => V.str (tx [d]) := by
      rw [hls, List.map_map]
      rfl
    rw [← e]
    exact SqL.of (r1.sub _ _ y2)
end
end Wk

/-! Wk32: sorted(list of texts). -/
namespace Wk
open PySem L2
open PyProof.Rows in
theorem rising_pw : ∀ (l : List Str) (p : Str), risingS p l = true → (p :: l).Pairwise fun a b => ¬ b.cps.toList < a.cps.toList
  | [], p, _ => by simp
  | x :: r, p, h => by
    have h' : (!PySem.Spec.ltCps x.cps.toList p.cps.toList && risingS x r) = true := h
    rw [Bool.and_eq_true] at h'
    obtain ⟨h1, h2⟩ := h'
    have i := rising_pw r x h2
    have h3 : ¬ x.cps.toList < p.cps.toList := by
      rw [PyProof.Rows.ltCps_eq] at h1
      simpa using h1
    rw [List.pairwise_cons]
    refine ⟨fun b hb => ?_, i⟩
    rcases List.mem_cons.mp hb with rfl | hb
    · exact h3
    · have h4 := (List.pairwise_cons.mp i).1 b hb
      rw [List.not_lt] at h3 h4 ⊢
      exact List.le_trans h3 h4
section
variable {ι : Type} {X : ι → Cx} {S : Sit} {sl sl1 : List Slot} {e : Expr} {pos p1 : Pos}
theorem x_sortedT {ls ks : List Txt} (f : Fam X S) (h : E X e sl sl1 ls) (hp : ks.Perm ls) (hs : ks.Pairwise fun a b => ¬ b < a) (few : ls.length < 64) (hg : ∀ i, Gl (X i) "sorted") (hm : S.mg "sorted" = none)
    (he : ∀ i, starEach [e] (X i).env = (false, eval e (X i).env) :: starEach [] (X i).env := by intro _; rfl) : EN X (.Call (.Name "sorted" p1) [e] [] pos) sl sl1 (cl ks) :=
  x_callBN f (r := rSortedS S.K) (fun i => by
    have y := cr_sortedS (X := X i)
    rw [f.K i] at y
    exact y) (a_v h a_nil he) (fun σ F H H0 vs g hA Q q => by
    obtain ⟨v, rfl, a, ws, rfl, ha, hr⟩ := args1 hA
    rw [Reps.flat] at hr
    subst hr
    refine ⟨a, ls.map tx, rfl, ?_, by rw [List.length_map]; exact few, fun ys p pm so hp2 => ?_⟩
    · have e2 : (ls.map tx).map V.str = ls.map Flat.toV := by rw [List.map_map]; rfl
      rw [e2]
      exact SqL.of (g.sub _ _ ha)
    · have e3 : ys = ks.map tx := by
        refine List.Perm.eq_of_pairwise (le := fun a b : Str => ¬ b.cps.toList < a.cps.toList) (fun a b _ _ h1 h2 => ?_) ?_ ?_ (pm.trans (hp.map tx).symm)
        · rw [List.not_lt] at h1 h2
          have := List.le_antisymm h1 h2
          cases a; cases b
          simpa using this
        · cases ys with
          | nil => exact List.Pairwise.nil
          | cons y ys => exact rising_pw ys y so
        · rw [List.pairwise_map]
          exact hs.imp fun h => by rw [tx_cps, tx_cps]; exact h
      refine q _ ⟨_, rfl, ?_⟩ p hp2
      rw [Reps.flat, e3, List.map_map]
      rfl) hg hm (by decide +kernel) (he := he)
end
end Wk

/-! Wk33: what rfind answers. -/
namespace Wk
open PySem PySem.Builtin.Str
theorem last_fold (s sub : Str) (hi : Nat) : ∀ (l : List Nat) (r : Option Nat), (forIn (m := Id) l r fun i last => if (decide (i + sub.length ≤ hi) && subAt s sub i) = true then pure (ForInStep.yield (some i)) else pure (ForInStep.yield last)).run = l.foldl (fun last i => if (decide (i + sub.length ≤ hi) && subAt s sub i) = true then some i else last) r
  | [], _ => rfl
  | i :: l, r => by
    rw [List.forIn_cons, List.foldl_cons]
    by_cases h : (decide (i + sub.length ≤ hi) && subAt s sub i) = true
    · rw [if_pos h, if_pos h]
      exact last_fold s sub hi l (some i)
    · rw [if_neg h, if_neg h]
      exact last_fold s sub hi l r
theorem last_eq (s sub : Str) (hi : Nat) : lastOccurrence s sub 0 hi = (List.range (hi + 1)).foldl (fun last i => if (decide (i + sub.length ≤ hi) && subAt s sub i) = true then some i else last) none := by
  rw [← last_fold]
  unfold lastOccurrence
  simp only [Std.Legacy.Range.forIn_eq_forIn_range', List.range_eq_range']
  have e : ([:hi + 1] : Std.Legacy.Range).size = hi + 1 := by simp [Std.Legacy.Range.size]
  rw [e]
  rfl
theorem fold_last {p : Nat → Bool} : ∀ n : Nat, ((List.range n).foldl (fun last i => if p i = true then some i else last) (none : Option Nat) = none ∧ ∀ i, i < n → p i = false) ∨ ∃ i, (List.range n).foldl (fun last i => if p i = true then some i else last) none = some i ∧ i < n ∧ p i = true ∧ ∀ k, i < k → k < n → p k = false
  | 0 => .inl ⟨rfl, fun i h => absurd h (Nat.not_lt_zero i)⟩
  | n + 1 => by
    rw [List.range_succ, List.foldl_append]
    show ((if p n = true then some n else _) = none ∧ _) ∨ ∃ i, (if p n = true then some n else _) = some i ∧ _
    by_cases h : p n = true
    · rw [if_pos h]
      exact .inr ⟨n, rfl, Nat.lt_succ_self n, h, fun k h1 h2 => absurd h2 (by omega)⟩
    · rw [if_neg h]
      have hf : p n = false := Bool.eq_false_iff.mpr h
      rcases fold_last (p := p) n with ⟨e, q⟩ | ⟨i, e, h1, h2, q⟩
      · refine .inl ⟨e, fun i hi => ?_⟩
        rcases Nat.lt_succ_iff_lt_or_eq.mp hi with y | y
        · exact q i y
        · rw [y]; exact hf
      · refine .inr ⟨i, e, Nat.lt_succ_of_lt h1, h2, fun k h3 h4 => ?_⟩
        rcases Nat.lt_succ_iff_lt_or_eq.mp h4 with y | y
        · exact q k h3 y
        · rw [y]; exact hf
end Wk

/-! Wk34: find and rfind of one sign. -/
namespace Wk
open PySem PySem.Builtin.Str
theorem at_sgn {u : Txt} {c i : Nat} : StrLaws.At (tx u) (tx [c]) (tx u).length i ↔ u[i]? = some c := by
  have y := StrLaws.subAt_one (tx u) c i
  rw [tx_cps] at y
  exact y
theorem find_sgn (u : Txt) (c : Nat) : (Txt.find (tx u) (tx [c]) = -1 ∧ ∀ i : Nat, u[i]? ≠ some c) ∨ ∃ i : Nat, Txt.find (tx u) (tx [c]) = (i : Int) ∧ u[i]? = some c ∧ ∀ k, k < i → u[k]? ≠ some c := by
  rcases PyProof.Rows.find_whole (tx u) (tx [c]) with ⟨h0, hn⟩ | ⟨i, h0, hi, hn⟩
  · exact .inl ⟨h0, fun i y => hn i (at_sgn.mpr y)⟩
  · exact .inr ⟨i, h0, at_sgn.mp hi, fun k hk y => hn k hk (at_sgn.mpr y)⟩
theorem rfind_sgn (u : Txt) (c : Nat) : (Txt.rfind (tx u) (tx [c]) = -1 ∧ ∀ i : Nat, u[i]? ≠ some c) ∨ ∃ i : Nat, Txt.rfind (tx u) (tx [c]) = (i : Int) ∧ u[i]? = some c ∧ ∀ k, i < k → u[k]? ≠ some c := by
  unfold Txt.rfind
  rw [last_eq]
  have key : ∀ i : Nat, (decide (i + (tx [c]).length ≤ (tx u).length) && subAt (tx u) (tx [c]) i) = true ↔ u[i]? = some c := fun i => by
    rw [Bool.and_eq_true, decide_eq_true_iff]
    exact at_sgn
  have far : ∀ i : Nat, ¬ i < (tx u).length + 1 → u[i]? ≠ some c := fun i hi y => by
    have := (List.getElem?_eq_some_iff.mp y).1
    rw [tx_len] at hi
    omega
  rcases fold_last (p := fun i => decide (i + (tx [c]).length ≤ (tx u).length) && subAt (tx u) (tx [c]) i) ((tx u).length + 1) with ⟨e, q⟩ | ⟨i, e, h1, h2, q⟩
  · rw [e]
    refine .inl ⟨rfl, fun i y => ?_⟩
    by_cases hi : i < (tx u).length + 1
    · have := q i hi
      rw [Bool.eq_false_iff] at this
      exact this ((key i).mpr y)
    · exact far i hi y
  · rw [e]
    refine .inr ⟨i, rfl, (key i).mp h2, fun k hk y => ?_⟩
    by_cases hi : k < (tx u).length + 1
    · have := q k hk hi
      rw [Bool.eq_false_iff] at this
      exact this ((key k).mpr y)
    · exact far k hi y
/-- find and rfind agree: the sign lies there once -/
theorem once_iff {u : Txt} {c : Nat} (h : c ∈ u) : (Txt.find (tx u) (tx [c]) : Int) = Txt.rfind (tx u) (tx [c]) ↔ ∃ i : Nat, u[i]? = some c ∧ ∀ k, k ≠ i → u[k]? ≠ some c := by
  obtain ⟨n, hn⟩ := List.mem_iff_getElem?.mp h
  rcases find_sgn u c with ⟨_, q⟩ | ⟨i, e, h1, h2⟩
  · exact absurd hn (q n)
  rcases rfind_sgn u c with ⟨_, q⟩ | ⟨j, e', h3, h4⟩
  · exact absurd hn (q n)
  rw [e, e']
  constructor
  · intro z
    have : i = j := by omega
    subst this
    refine ⟨i, h1, fun k hk y => ?_⟩
    rcases Nat.lt_or_gt_of_ne hk with y2 | y2
    · exact h2 k y2 y
    · exact h4 k y2 y
  · rintro ⟨m, m1, m2⟩
    have a : i = m := Decidable.byContradiction fun z => m2 i z h1
    have b : j = m := Decidable.byContradiction fun z => m2 j z h3
    rw [a, b]
end Wk

/-! Wk35: list(a tuple). -/
namespace Wk
open PySem L2
section
variable {ι : Type} {X : ι → Cx} {S : Sit} {sl sl1 : List Slot} {e : Expr} {pos p1 : Pos} {α : Type} [Rep α]
theorem x_listTp {xs : List α} (f : Fam X S) (h : E X e sl sl1 (Tup.mk xs)) (hg : ∀ i, Gl (X i) "list") (hm : S.mg "list" = none) (he : ∀ i, starEach [e] (X i).env = (false, eval e (X i).env) :: starEach [] (X i).env := by intro _; rfl) : EN X (.Call (.Name "list" p1) [e] [] pos) sl sl1 (cl xs) :=
  x_callTyN f (r := fun xs H Q => ∃ p ys, xs = [.ref p] ∧ (SqL S.K H p ys ∨ SqT S.K H p ys) ∧ ∀ l, H l = none → Q (.ref l) (upd H l (.lst ys))) (fun i => by
    have z := call_list_of (X := X i)
    rw [f.K i] at z
    exact z) (a_v h a_nil he) (fun σ F H H0 vs g hA Q q => by
    obtain ⟨v, rfl, p, ws, rfl, hp, hr⟩ := args1 hA
    exact ⟨p, ws, rfl, .inr (SqT.of (g.sub _ _ hp)), fun p3 h3 => q _ ⟨_, rfl, hr⟩ p3 h3⟩) hg hm PyProof.Rows.boot_list (he := he)
end
end Wk

/-! Wk36: the last of the layer so far. -/
namespace Wk
open PySem L2
section
variable {ι : Type} {X : ι → Cx} {S : Sit} {sl sl1 sl2 : List Slot} {e e1 e2 e3 : Expr} {pos p1 p2 p3 : Pos} {x : Str} {ρ : Type} [Rep ρ]
/-- sum(list of ints) -/
theorem x_sumI {ns : List Int} (f : Fam X S) (h : E X e sl sl1 ns) (hg : ∀ i, Gl (X i) "sum") (hm : S.mg "sum" = none) (he : ∀ i, starEach (e :: []) (X i).env = (false, eval e (X i).env) :: starEach [] (X i).env := by intro _; rfl) : E X (.Call (.Name "sum" p1) [e] [] pos) sl sl1 ns.sum :=
  x_callB f (id := "sum") (r := rSum S.K) (fun i => by
    have z := cr_sum (X := X i) (f.calm i)
    rw [f.K i] at z
    exact z) (a_v h a_nil he) (fun σ F H H0 vs g hA Q q => by
    obtain ⟨v, rfl, p, ws, rfl, hp, hr⟩ := args1 hA
    rw [Reps.flat] at hr
    subst hr
    exact ⟨p, ns, rfl, SqL.of (g.sub _ _ hp), q _ rfl⟩) hg hm (by decide +kernel) (he := he)
/-- sorted(a new dict), the keys being texts -/
theorem x_sortedDT {kvs : List (Key × V)} {ks : List Txt} (f : Fam X S) (h : EN X e sl sl1 (cdk kvs)) (hk : (ks.map fun t => (Sum.inr (tx t) : Key)).Perm (kvs.map (·.1))) (hs : ks.Pairwise fun a b => ¬ b < a) (few : ks.length < 64) (hg : ∀ i, Gl (X i) "sorted") (hm : S.mg "sorted" = none)
    (he : ∀ i, starEach [e] (X i).env = (false, eval e (X i).env) :: starEach [] (X i).env := by intro _; rfl) : EN X (.Call (.Name "sorted" p1) [e] [] pos) sl sl1 (cl ks) :=
  x_callBN f (fun i => call_sortedD (f.calm i)) (a_n h a_nil he) (fun σ F H H0 vs g hA Q q => by
    obtain ⟨p, rfl, _, fp, o, ho, hc⟩ := argsN hA
    have e : o = .dK kvs := hc
    subst e
    have key : ∀ L : List Key, (∀ k ∈ L, ∃ t : Txt, k = Sum.inr (tx t)) → ∃ ls : List Txt, L = (ls.map tx).map Sum.inr := by
      intro L hall
      induction L with
      | nil => exact ⟨[], rfl⟩
      | cons k L ih =>
        obtain ⟨y, rfl⟩ := hall k (by simp)
        obtain ⟨ys, e⟩ := ih fun k h => hall k (List.mem_cons_of_mem _ h)
        exact ⟨y :: ys, by rw [e]; rfl⟩
    obtain ⟨ls, el⟩ := key (kvs.map (·.1)) fun k hkk => by
      obtain ⟨t, _, rfl⟩ := List.mem_map.mp (hk.mem_iff.mpr hkk)
      exact ⟨t, rfl⟩
    have pl : ks.Perm ls := by
      have y := hk.map fun k : Key => match k with
        | .inr s => s.cps.toList
        | .inl _ => []
      have ex : ∀ us : List Txt, (us.map tx).map (fun s : Str => s.cps.toList) = us := fun us => by
        rw [List.map_map]
        exact (List.map_congr_left fun t _ => by show (tx t).cps.toList = id t; rw [tx_cps]; rfl).trans (List.map_id _)
      rw [el, List.map_map, List.map_map] at y
      have y2 : ((ks.map tx).map fun s : Str => s.cps.toList).Perm ((ls.map tx).map fun s : Str => s.cps.toList) := by
        rw [List.map_map]
        exact y
      rw [ex, ex] at y2
      exact y2
    refine ⟨p, kvs, ls.map tx, rfl, .inl ho, el, by rw [List.length_map]; have := pl.length_eq; omega, fun ys p2 pm so h2 => ?_⟩
    have e3 : ys = ks.map tx := by
      refine List.Perm.eq_of_pairwise (le := fun a b : Str => ¬ b.cps.toList < a.cps.toList) (fun a b _ _ h1 h2 => ?_) ?_ ?_ (pm.trans (pl.map tx).symm)
      · rw [List.not_lt] at h1 h2
        have := List.le_antisymm h1 h2
        cases a; cases b
        simpa using this
      · cases ys with
        | nil => exact List.Pairwise.nil
        | cons y ys => exact rising_pw ys y so
      · exact List.pairwise_map.mpr (hs.imp fun {a b} h => by rw [tx_cps, tx_cps]; exact h)
    refine q _ ⟨_, rfl, ?_⟩ p2 h2
    rw [Reps.flat, e3, List.map_map]
    rfl) hg hm PyProof.Rows.boot_sorted (he := he)
/-- x, y = values at once -/
theorem g1_par2v {α β : Type} [Rep α] [Rep β] {a : α} {b : β} (f : Fam X S) (i j : Nat) {y : Str} {k k2 : Nat} {pt pt2 : Pos} (h : A X [e1, e2] sl sl2 [va a, va b]) (hN : S.N[i]? = some x) (hM : S.N[j]? = some y) (hij : i ≠ j) (hx : ∀ n, (X n).env.scope.names.lookup x = some .local) (hy : ∀ n, (X n).env.scope.names.lookup y = some .local)
    (hw : ∀ n, swappedStores [.Tuple [.Name x p1, .Name y p2] k pt] (.Tuple [e1, e2] k2 pt2) (X n).env = pure (some [x, y]) := by intro _; rfl) (hs : ∀ n, swapsWithSole [.Tuple [.Name x p1, .Name y p2] k pt] (.Tuple [e1, e2] k2 pt2) pos.line (X n).env = pure false := by intro _; rfl) :
    G1 X (.Assign [.Tuple [.Name x p1, .Name y p2] k pt] (.Tuple [e1, e2] k2 pt2) pos) sl (.next ((sl2.set i (vl a)).set j (vl b)) : Out ρ) := by
  obtain ⟨t, a1, a2⟩ := h
  refine ⟨_, fun n => ps_par (i := i) (j := j) (f.calm n) (by rw [f.N n]; exact f.nd) (by rw [f.N n]; exact hN) (by rw [f.N n]; exact hM) hij (hx n) (hy n) (a1 n) (hw n) (hs n), fun σ F H D r m => a2.2 σ F H r _ fun vs F1 H1 s1 r1 hv => ?_⟩
  obtain ⟨v, w, rfl, y1, y2⟩ := args2 hv
  obtain ⟨g1, o1, _⟩ := reg_put (s := vl a) (o := some v) i r1 trivial ⟨v, rfl, y1⟩ (by intro p c h; cases h)
  obtain ⟨g2, o2, _⟩ := reg_put (s := vl b) (o := some w) j g1 trivial ⟨w, rfl, y2⟩ (by intro p c h; cases h)
  exact ⟨v, w, rfl, m _ F1 H1 s1 g2 ((OwnOk.same a2.1).trans (F := F) (F1 := F1) (o1.trans (F := F1) (F1 := F1) o2 fun _ z => z) fun p z => s1.free z)⟩
end
end Wk

/-! Wk37: and, or with a change of state. -/
namespace Wk
open PySem L2
section
variable {ι : Type} {X : ι → Cx} {S : Sit} {sl sl1 sl2 : List Slot} {e e1 : Expr} {es : List Expr} {pos : Pos}
theorem x_andT {c d : Bool} (hc : c = true) (h : E X e sl sl1 c) (h2 : E X (.BoolOp .And (e1 :: es) pos) sl1 sl2 d) : E X (.BoolOp .And (e :: e1 :: es) pos) sl sl2 d := by
  subst hc
  obtain ⟨t, a1, a2⟩ := h
  obtain ⟨u, b1, b2⟩ := h2
  refine ⟨_, fun i => pe_and (a1 i) (b1 i), a2.1.trans b2.1, fun σ F H r Q q => a2.2 σ F H r _ fun v F1 H1 s1 r1 hv => ⟨true, hv, ?_⟩⟩
  rw [if_pos rfl]
  exact b2.2 σ F1 H1 r1 Q fun v F2 H2 s2 r2 hv => q v F2 H2 (s1.trans s2 fun p hp => .inl (by rw [owns_kd a2.1]; exact hp)) r2 hv
end
end Wk

/-! Wk38: three names at once. -/
namespace Wk
open PySem L2
section
variable {ι : Type} {X : ι → Cx} {S : Sit} {sl sl1 sl2 : List Slot} {e e1 e2 e3 : Expr} {pos p1 p2 p3 : Pos} {x : Str} {ρ : Type} [Rep ρ]
theorem args3 {α β γ : Type} [Rep α] [Rep β] [Rep γ] {a : α} {b : β} {c : γ} {σ : L2.St} {H0 F H : Hp} {vs : List V} (h : Args σ H0 F H vs [va a, va b, va c]) : ∃ v w u, vs = [v, w, u] ∧ Rep.rep F v a ∧ Rep.rep F w b ∧ Rep.rep F u c := by
  match vs, h with
  | [v, w, u], h => exact ⟨v, w, u, rfl, h.1, h.2.1, h.2.2.1⟩
/-- x, y, z = values at once -/
theorem g1_par3v {α β γ : Type} [Rep α] [Rep β] [Rep γ] {a : α} {b : β} {c : γ} (f : Fam X S) (i j l : Nat) {y z : Str} {k k2 : Nat} {pt pt2 : Pos} (h : A X [e1, e2, e3] sl sl2 [va a, va b, va c]) (hN : S.N[i]? = some x) (hM : S.N[j]? = some y) (hL : S.N[l]? = some z) (hij : i ≠ j) (hil : i ≠ l) (hjl : j ≠ l)
    (hx : ∀ n, (X n).env.scope.names.lookup x = some .local) (hy : ∀ n, (X n).env.scope.names.lookup y = some .local) (hz : ∀ n, (X n).env.scope.names.lookup z = some .local)
    (hw : ∀ n, swappedStores [.Tuple [.Name x p1, .Name y p2, .Name z p3] k pt] (.Tuple [e1, e2, e3] k2 pt2) (X n).env = pure (some [x, y, z]) := by intro _; rfl) (hs : ∀ n, swapsWithSole [.Tuple [.Name x p1, .Name y p2, .Name z p3] k pt] (.Tuple [e1, e2, e3] k2 pt2) pos.line (X n).env = pure false := by intro _; rfl) :
    G1 X (.Assign [.Tuple [.Name x p1, .Name y p2, .Name z p3] k pt] (.Tuple [e1, e2, e3] k2 pt2) pos) sl (.next (((sl2.set i (vl a)).set j (vl b)).set l (vl c)) : Out ρ) := by
  obtain ⟨t, a1, a2⟩ := h
  refine ⟨_, fun n => ps_par3 (i := i) (j := j) (l := l) (f.calm n) (by rw [f.N n]; exact f.nd) (by rw [f.N n]; exact hN) (by rw [f.N n]; exact hM) (by rw [f.N n]; exact hL) hij hil hjl (hx n) (hy n) (hz n) (a1 n) (hw n) (hs n), fun σ F H D r m => a2.2 σ F H r _ fun vs F1 H1 s1 r1 hv => ?_⟩
  obtain ⟨v, w, u, rfl, y1, y2, y3⟩ := args3 hv
  obtain ⟨g1, o1, _⟩ := reg_put (s := vl a) (o := some v) i r1 trivial ⟨v, rfl, y1⟩ (by intro p c h; cases h)
  obtain ⟨g2, o2, _⟩ := reg_put (s := vl b) (o := some w) j g1 trivial ⟨w, rfl, y2⟩ (by intro p c h; cases h)
  obtain ⟨g3, o3, _⟩ := reg_put (s := vl c) (o := some u) l g2 trivial ⟨u, rfl, y3⟩ (by intro p c h; cases h)
  exact ⟨v, w, u, rfl, m _ F1 H1 s1 g3 ((OwnOk.same a2.1).trans (F := F) (F1 := F1) ((o1.trans (F := F1) (F1 := F1) o2 fun _ z => z).trans (F := F1) (F1 := F1) o3 fun _ z => z) fun p z => s1.free z)⟩
end
end Wk

/-! Wk39: fine data, nested. -/
namespace Wk
open PySem L2
section
variable {α : Type} [Rep α]
instance [DecidableEq α] : DecidableEq (Tup α) := fun a b => decidable_of_iff (a.xs = b.xs) tup_eq.symm
/-- data that can be compared, n deep -/
def FinN [Dta α] (n : Nat) (a : α) : Prop := (Dta.pd a).canLay0 = true ∧ (Dta.pd a).depth ≤ n
theorem FinN.fine [Dta α] {n : Nat} {a : α} (h : FinN n a) (hn : n ≤ 64) : Fine a := by
  show ((Dta.pd a).canLay0 && decide ((Dta.pd a).depth ≤ 64)) = true
  rw [h.1, decide_eq_true (Nat.le_trans h.2 hn)]
  rfl
theorem fin_txt {l : Txt} (h : Low l) : FinN 0 l := ⟨fine_str h, Nat.le_refl 0⟩
theorem fin_all [Dta α] {n : Nat} : ∀ {as : List α}, (∀ a ∈ as, FinN n a) → PyData.canLayAll0 (as.map Dta.pd) = true ∧ PyData.depthAll (as.map Dta.pd) ≤ n
  | [], _ => ⟨rfl, Nat.zero_le _⟩
  | a :: as, h => by
    obtain ⟨i1, i2⟩ := fin_all (as := as) fun b hb => h b (List.mem_cons_of_mem _ hb)
    obtain ⟨h1, h2⟩ := h a (List.mem_cons_self ..)
    constructor
    · show ((Dta.pd a).canLay0 && PyData.canLayAll0 (as.map Dta.pd)) = true
      rw [h1, i1]
      rfl
    · show max (Dta.pd a).depth (PyData.depthAll (as.map Dta.pd)) ≤ n
      omega
theorem fin_list [Dta α] {n : Nat} {as : List α} (h : ∀ a ∈ as, FinN n a) : FinN (n + 1) as := by
  obtain ⟨h1, h2⟩ := fin_all h
  exact ⟨h1, show PyData.depthAll (as.map Dta.pd) + 1 ≤ n + 1 by omega⟩
theorem fin_tup [Dta α] {n : Nat} {as : Tup α} (h : ∀ a ∈ as.xs, FinN n a) : FinN (n + 1) as := by
  obtain ⟨h1, h2⟩ := fin_all h
  exact ⟨h1, show PyData.depthAll (as.xs.map Dta.pd) + 1 ≤ n + 1 by omega⟩
end
end Wk

/-! Wk40: dict(list of pairs) with tuples as keys. -/
namespace Wk
open PySem L2
/-- a dict with tuples as keys, by what it holds -/
def cdT (kvs : List (List Key × V)) : Ct := ⟨fun _ o => o = .dT kvs, fun _ h => h⟩
def mergeT (kvs more : List (List Key × V)) : List (List Key × V) := more.foldl (fun acc kv => L2.putK acc kv.1 kv.2) kvs
/-- pairs as they stand in a list: key, the key's tuple, value -/
abbrev TPair := List Key × Addr × V
theorem kt_merge {H : Hp} {prs : List TPair} {xs : List (List Key × Addr × Value)} (h : Paired (fun (p : TPair) (q : List Key × Addr × Value) => p.1 = q.1 ∧ p.2.1 = q.2.1 ∧ H q.2.1 = some (.tup (q.1.map kV)) ∧ RelV p.2.2 q.2.2) prs xs) :
    ∀ {kvs : List (List Key × V)} {vs : List (List Key × Addr × Value)}, KT H kvs vs → KT H (mergeT kvs (prs.map fun x => (x.1, x.2.2))) (storedAllH vs xs) := by
  induction h with
  | nil => intro kvs vs r; exact r
  | @cons p q ps qs h t ih =>
    intro kvs vs r
    obtain ⟨h1, h2, h3, h4⟩ := h
    have y : KT H (L2.putK kvs p.1 p.2.2) (storedH vs q.1 q.2.1 q.2.2) := by
      rw [h1]
      exact r.put q.1 h3 h4
    exact ih y
section
variable {X : Cx}
theorem tpairs_of {pins : List (Addr × Obj)} {σ : L2.St} {H : Hp} {s : Shared} (I : Inv X pins σ H s) : ∀ {ps : List Addr} {prs : List TPair}, Paired (fun p (x : TPair) => SqT X.K H p [.ref x.2.1, x.2.2] ∧ H x.2.1 = some (.tup (x.1.map kV))) ps prs →
    ∃ xs : List (List Key × Addr × Value), Paired (fun (p : TPair) (q : List Key × Addr × Value) => p.1 = q.1 ∧ p.2.1 = q.2.1 ∧ H q.2.1 = some (.tup (q.1.map kV)) ∧ RelV p.2.2 q.2.2) prs xs ∧ xs.length = ps.length ∧
      (∀ (j : Nat) (y : List Key × Addr × Value), xs[j]? = some y → ∃ b : Addr, ps[j]? = some b ∧ s.heap.IsTuple b #[.ref y.2.1, y.2.2]) ∧ ∀ y ∈ xs, H y.2.1 = some (.tup (y.1.map kV))
  | _, _, .nil => ⟨[], .nil, rfl, fun j q e => by simp at e, fun y h => by cases h⟩
  | _, _, .cons (a := p) (b := x) h t => by
    obtain ⟨xs, r, hl, hp, ha⟩ := tpairs_of I t
    obtain ⟨its, rv, ht, _⟩ := I.tuple h.1
    obtain ⟨u, y, ei, ru, ry⟩ := vals2 rv
    subst ei
    have eu : u = Value.ref x.2.1 := ru
    subst eu
    refine ⟨(x.1, x.2.1, y) :: xs, .cons ⟨rfl, rfl, h.2, ry⟩ r, by rw [List.length_cons, List.length_cons, hl], fun j q e => ?_, fun q hq => ?_⟩
    · cases j with
      | zero =>
        have e' : (x.1, x.2.1, y) = q := Option.some.inj e
        subst e'
        obtain ⟨o, ho, hc, n, hd⟩ := ht
        exact ⟨p, rfl, o, ho, hc, n, hd⟩
      | succ j =>
        obtain ⟨b, e1, e2⟩ := hp j q (by simpa using e)
        exact ⟨b, by simpa using e1, e2⟩
    · rcases List.mem_cons.mp hq with e | e
      · rw [e]
        exact h.2
      · exact ha q e
def rDictPT (K : PySem.W.Frag) : List V → Hp → VK → Prop := fun xs H Q => ∃ (a : Addr) (ps : List Addr) (prs : List TPair), xs = [.ref a] ∧ SqL K H a (ps.map V.ref) ∧ Paired (fun p (x : TPair) => SqT K H p [.ref x.2.1, x.2.2] ∧ H x.2.1 = some (.tup (x.1.map kV))) ps prs ∧
    ∀ p, H p = none → Q (.ref p) (upd H p (.dT (mergeT [] (prs.map fun x => (x.1, x.2.2)))))
theorem mergeT_len : ∀ (more kvs : List (List Key × V)), (mergeT kvs more).length ≤ kvs.length + more.length
  | [], kvs => Nat.le_refl _
  | p :: more, kvs => by
    have i := mergeT_len more (L2.putK kvs p.1 p.2)
    have l : (L2.putK kvs p.1 p.2).length ≤ kvs.length + 1 := by
      unfold L2.putK
      split
      · rw [List.length_map]; omega
      · rw [List.length_append]; exact Nat.le_refl _
    show (mergeT (L2.putK kvs p.1 p.2) more).length ≤ _
    rw [List.length_cons]
    omega
theorem call_dictPT (hcalm : X.calm = true) (hu : X.A.units + 2 < cLine) : CallR X (.type "dict") (rDictPT X.K) := by
  intro pins s σ H xs us Q I r q
  obtain ⟨a, ps, prs, ex, hq, hp, q⟩ := q
  subst ex
  obtain ⟨u, eu, rx⟩ := vals1 r
  subst eu
  cases rx
  obtain ⟨its, rv, pl, hz⟩ := I.list hq
  have ei := refs_at rv
  subst ei
  rw [List.length_map] at hz
  obtain ⟨ys, rel, hl, hpr, hall⟩ := tpairs_of I hp
  obtain ⟨o, n, ho, hc, hd, hdat⟩ := pl
  have hpl : (prs.map fun x : TPair => (x.1, x.2.2)).length = ps.length := by rw [List.length_map, rel.length, hl]
  have hm : (s.heap.objs.size == sysModules) = false := beq_eq_false_iff_ne.mpr (Nat.ne_of_gt I.big)
  have hne : ∀ b ks, H b = some (.tup ks) → b ≠ s.heap.objs.size := fun b ks e y => by
    have z := (I.hok b _ e).lt
    rw [y] at z
    exact Nat.lt_irrefl _ z
  refine call_dict_pairsH (knd := tupleKind (mixKind X.prog X.w)) (ps := ys) (PairArg.list a (ps.map Value.ref).toArray (fun j => (ps[j]?).getD 0) (ys.map fun y => (Value.ref y.2.1, y.2.2))) (I.ok.hd hcalm) (show X.A.units + 1 + 1 < cLine from hu) ⟨⟨o, n, ho, hc, hd, hdat⟩, by simp [hl], fun j k v hj => ?_⟩ ⟨(List.length_map _).symm, fun i key v hr => ?_⟩ (fun h' hk x hx => ?_) (by rw [List.length_map, hl]; exact hz) fun h' tk hd' hk => ?_
  · rw [List.getElem?_map] at hj
    cases e : ys[j]? with
    | none => rw [e] at hj; cases hj
    | some y =>
      rw [e] at hj
      have hj' : (Value.ref y.2.1, y.2.2) = (k, v) := Option.some.inj hj
      obtain ⟨b, e1, e2⟩ := hpr j y e
      cases hj'
      refine ⟨by simp [e1], .inl ?_⟩
      show s.heap.IsTuple ((ps[j]?).getD 0) _
      rw [e1]
      exact e2
  · have hr' : (ys.map fun y => (Value.ref y.2.1, y.2.2))[i]? = some (key, v) := hr
    rw [List.getElem?_map] at hr'
    cases e : ys[i]? with
    | none => rw [e] at hr'; cases hr'
    | some y =>
      rw [e] at hr'
      have hj' : (Value.ref y.2.1, y.2.2) = (key, v) := Option.some.inj hr'
      cases hj'
      exact ⟨y.1, y.2.1, rfl, rfl⟩
  · obtain ⟨o2, its2, n2, h1, h2, h3, h4⟩ := key_of I.hok (hall x hx)
    exact ⟨o2, its2, n2, hk _ _ (hne _ _ (hall x hx)) (fun y => nomatch y) h1, h2, h3, h4⟩
  · obtain ⟨o3, es, ep, ho3, hc3, hdat3, he3, _, hn3⟩ := hd'
    have kt : KT H (mergeT [] (prs.map fun x : TPair => (x.1, x.2.2))) (storedAllH [] ys) := kt_merge rel .nil
    have kt2 := kt.keeps (H' := upd H s.heap.objs.size (.dT (mergeT [] (prs.map fun x : TPair => (x.1, x.2.2))))) fun b ks e => by rw [upd_ne (hne b ks e)]; exact e
    have len := mergeT_len (prs.map fun x : TPair => (x.1, x.2.2)) []
    have k : ∀ b u, s.heap.get? b = some u → h'.get? b = some u := fun b u e => hk b u (fun y => nomatch y) e
    refine ⟨.ref s.heap.objs.size, upd H s.heap.objs.size (.dT (mergeT [] (prs.map fun x : TPair => (x.1, x.2.2)))), I.laid (t' := tk) k (Nat.le_refl _) ⟨?_, hm, storedAllH [] ys, kt2, o3, es, ep, ho3, hc3, hdat3, he3, hn3⟩, rfl, q _ (I.hok.fresh (Nat.le_refl _))⟩
    rw [List.length_nil, Nat.zero_add, hpl] at len
    omega
end
/-- pairs ((text, text), flat), as a dict's -/
def kvT {α : Type} [Flat α] (xs : List ((Txt × Txt) × α)) : List (List Key × V) := xs.map fun p => ([Sum.inr (tx p.1.1), Sum.inr (tx p.1.2)], Flat.toV p.2)
section
variable {ι : Type} {X : ι → Cx} {S : Sit} {sl sl1 sl2 : List Slot} {e e1 : Expr} {pos p1 p2 : Pos} {x : Str}
/-- dict(list of pairs), the keys being pairs of texts -/
theorem x_dictPT {α : Type} [Flat α] {xs : List ((Txt × Txt) × α)} (f : Fam X S) (h : E X e sl sl1 xs) (hg : ∀ i, Gl (X i) "dict") (hm : S.mg "dict" = none) (he : ∀ i, starEach [e] (X i).env = (false, eval e (X i).env) :: starEach [] (X i).env := by intro _; rfl) :
    EN X (.Call (.Name "dict" p1) [e] [] pos) sl sl1 (cdT (mergeT [] (kvT xs))) :=
  x_callTyN f (r := rDictPT S.K) (fun i => by
    have y := call_dictPT (X := X i) (f.calm i) (by have := (f.room i).un; omega)
    rw [f.K i] at y
    exact y) (a_v h a_nil he) (fun σ F H H0 vs g hA Q q => by
    obtain ⟨v, rfl, a, ws, rfl, ha, hr⟩ := args1 hA
    have key : ∃ (ps : List Addr) (prs : List TPair), ws = ps.map V.ref ∧ (prs.map fun x => (x.1, x.2.2)) = kvT xs ∧ Paired (fun p (x : TPair) => SqT S.K H p [.ref x.2.1, x.2.2] ∧ H x.2.1 = some (.tup (x.1.map kV))) ps prs := by
      clear ha hA h q
      revert hr
      induction ws generalizing xs with
      | nil => intro hr; cases xs with
        | nil => exact ⟨[], [], rfl, rfl, .nil⟩
        | cons _ _ => exact hr.elim
      | cons y ws ih => intro hr; cases xs with
        | nil => exact hr.elim
        | cons p xs =>
          obtain ⟨⟨t, u, v, rfl, ht, ⟨b, u1, u2, rfl, hb, hu1, hu2⟩, hv⟩, hr⟩ := hr
          obtain ⟨ps, prs, e1, e2, e3⟩ := ih hr
          have ev : v = Flat.toV p.2 := hv
          have eu1 : u1 = V.str (tx p.1.1) := hu1
          have eu2 : u2 = V.str (tx p.1.2) := hu2
          subst ev
          subst eu1
          subst eu2
          refine ⟨t :: ps, ([Sum.inr (tx p.1.1), Sum.inr (tx p.1.2)], b, Flat.toV p.2) :: prs, by rw [e1]; rfl, ?_, .cons ⟨SqT.of (g.sub _ _ ht), g.sub _ _ hb⟩ e3⟩
          rw [List.map_cons, e2]
          rfl
    obtain ⟨ps, prs, rfl, e2, pp⟩ := key
    exact ⟨a, ps, prs, rfl, SqL.of (g.sub _ _ ha), pp, fun p hp => q _ (by rw [e2]; exact rfl) p hp⟩) hg hm PyProof.Rows.boot_dict (he := he)
/-- len of a slot's dict with tuples as keys -/
theorem x_lenT {kvs : List (List Key × V)} (f : Fam X S) (j : Nat) (hN : S.N[j]? = some x) (hv : ∀ i, Vis (X i).env.scope x) (hj : sl[j]? = some (.own (cdT kvs))) (hg : ∀ i, Gl (X i) "len") (hm : S.mg "len" = none) (hd : (x == ("__debug__" : Str)) = false := by decide) (hcd : (x == ("__classdict__" : Str)) = false := by decide) :
    E X (.Call (.Name "len" p1) [.Name x p2] [] pos) sl sl (kvs.length : Int) :=
  x_callB f (fun _ => call_len_dT) (a_s f j hN hv (.inl hj) a_nil hd hcd (fun _ => rfl)) (fun σ F H H0 vs g hA Q q => by
    obtain ⟨v, rfl, hv⟩ := argsS hA
    obtain ⟨p, e, ⟨_, o, ho, hc⟩, _, _⟩ := g.lend hj (.inl rfl)
    rw [hv] at e
    have ev : v = .ref p := by simpa using e
    subst ev
    have eo : o = .dT kvs := hc
    subst eo
    exact ⟨p, kvs, rfl, ho, q _ rfl⟩) hg hm PySem.boot_len (he := fun _ => rfl)
end
end Wk

/-! Wk41: two places of a list exchanged; values compared. -/
namespace Wk
open PySem L2
section
variable {ι : Type} {X : ι → Cx} {S : Sit} {sl sl1 sl2 : List Slot} {α β ρ : Type} [Rep α] [Rep β] [Rep ρ] {a b : α} {e e1 e2 e3 x1 x2 : Expr} {pos p1 p2 p3 q1 q2 : Pos} {x : Str}
theorem x_neD [Dta α] [DecidableEq α] (f : Fam X S) (ha : E X e1 sl sl1 a) (hb : E X e2 sl1 sl2 b) (fa : Fine a) (fb : Fine b) (hm : behindInMarks .NotEq e2 = false := by rfl) : E X (.Compare e1 [.NotEq] [e2] pos) sl sl2 (!decide (a = b)) :=
  x_cmp f (r := rNeD S.K) (fun i => by
    have y := op_neD (X := X i) (by have := (f.room i).un; omega)
    rw [f.K i] at y
    exact y) ha hb hm fun F H x y sm hx hy Q q => ⟨_, _, Dta.dp sm hx, Dta.dp sm hy, fa, fb, by rw [dta_eqv]; exact q⟩
theorem fin_bool (b : Bool) : FinN 0 b := ⟨rfl, Nat.le_refl 0⟩
theorem fin_int (i : Int) : FinN 0 i := ⟨rfl, Nat.le_refl 0⟩
/-- x[i], x[k] = values, x a slot's list -/
theorem g1_swapO {xs : List α} {i1 i2 : Int} {n1 n2 : Nat} {kk k2 : Nat} {pt pt2 : Pos} (f : Fam X S) (j : Nat) (hN : S.N[j]? = some x) (hv : ∀ i, Vis (X i).env.scope x) (h : E X (.Tuple [e1, e3] k2 pt2) sl sl1 (a, b)) (hi1 : E X x1 sl1 sl1 i1) (hi2 : E X x2 (putC sl1 j (cl (xs.set n1 a))) (putC sl1 j (cl (xs.set n1 a))) i2) (hj : Holds sl1 j (cl xs)) (hn1 : ixN xs.length i1 = some n1) (hn2 : ixN xs.length i2 = some n2)
    (hd : (x == ("__debug__" : Str)) = false := by decide) (hcd : (x == ("__classdict__" : Str)) = false := by decide)
    (ha1 : ∀ i v, assign (.Subscript (.Name x p1) x1 q1) (X i).env v = (do
      let ov ← holding [v] (eval (.Name x p1) (X i).env)
      let iv ← holding [v, ov] (eval x1 (X i).env)
      standAt q1
      holding [v, ov, iv] (setItem ov iv v)
      release [v, ov, iv] []) := by intro _ _; rfl)
    (ha2 : ∀ i v, assign (.Subscript (.Name x p2) x2 q2) (X i).env v = (do
      let ov ← holding [v] (eval (.Name x p2) (X i).env)
      let iv ← holding [v, ov] (eval x2 (X i).env)
      standAt q2
      holding [v, ov, iv] (setItem ov iv v)
      release [v, ov, iv] []) := by intro _ _; rfl)
    (hs : ∀ i, swapsWithSole [.Tuple [.Subscript (.Name x p1) x1 q1, .Subscript (.Name x p2) x2 q2] kk pt] (.Tuple [e1, e3] k2 pt2) pos.line (X i).env = pure false := by intro _; rfl) (hw : ∀ i, swappedStores [.Tuple [.Subscript (.Name x p1) x1 q1, .Subscript (.Name x p2) x2 q2] kk pt] (.Tuple [e1, e3] k2 pt2) (X i).env = pure none := by intro _; rfl)
    (h1 : ∀ i, (assignEach [.Tuple [.Subscript (.Name x p1) x1 q1, .Subscript (.Name x p2) x2 q2] kk pt] (X i).env).map (·.2) = [assign (.Tuple [.Subscript (.Name x p1) x1 q1, .Subscript (.Name x p2) x2 q2] kk pt) (X i).env] := by intro _; rfl)
    (hl : ∀ i, (assignEach [.Subscript (.Name x p1) x1 q1, .Subscript (.Name x p2) x2 q2] (X i).env).length = 2 := by intro _; rfl) (hst : ∀ i, (assignEach [.Subscript (.Name x p1) x1 q1, .Subscript (.Name x p2) x2 q2] (X i).env).findIdx? (·.1) = none := by intro _; rfl)
    (hA1 : ∀ i, (assignEach [.Subscript (.Name x p1) x1 q1, .Subscript (.Name x p2) x2 q2] (X i).env).map (·.2) = assign (.Subscript (.Name x p1) x1 q1) (X i).env :: (assignEach [.Subscript (.Name x p2) x2 q2] (X i).env).map (·.2) := by intro _; rfl) (hA2 : ∀ i, (assignEach [.Subscript (.Name x p2) x2 q2] (X i).env).map (·.2) = assign (.Subscript (.Name x p2) x2 q2) (X i).env :: (assignEach [] (X i).env).map (·.2) := by intro _; rfl) :
    G1 X (.Assign [.Tuple [.Subscript (.Name x p1) x1 q1, .Subscript (.Name x p2) x2 q2] kk pt] (.Tuple [e1, e3] k2 pt2) pos) sl (.next (putC (putC sl1 j (cl (xs.set n1 a))) j (cl ((xs.set n1 a).set n2 b))) : Out ρ) := by
  obtain ⟨te, a1, a2⟩ := h
  obtain ⟨t1, b1, b2⟩ := hi1
  obtain ⟨t2, c1, c2⟩ := hi2
  obtain ⟨s, hj1, hj2⟩ := hj.ex
  have hjl : j < sl1.length := (List.getElem?_eq_some_iff.mp hj1).1
  have ep1 := putC_eq (sl := sl1) (cl (xs.set n1 a)) hj1
  have hk1 : (putC sl1 j (cl (xs.set n1 a)))[j]? = some (s.to (cl (xs.set n1 a))) := by
    rw [ep1]
    exact List.getElem?_set_self hjl
  have hk2 : s.to (cl (xs.set n1 a)) = .own (cl (xs.set n1 a)) ∨ ∃ q, s.to (cl (xs.set n1 a)) = .par q (cl (xs.set n1 a)) := by
    rcases hj2 with e | ⟨q, e⟩
    · rw [e]; exact .inl rfl
    · rw [e]; exact .inr ⟨q, rfl⟩
  refine ⟨_, fun i => ps_asg (a1 i) (pg_tupK f (pgs_cons (pg_sub (pe_var (i := j) (by rw [f.N i]; exact hN) (hv i) hd hcd) (b1 i) set_list (ha1 i)) (pgs_cons (pg_sub (pe_var (i := j) (by rw [f.N i]; exact hN) (hv i) hd hcd) (c1 i) set_list (ha2 i)) pgs_nil (hA2 i)) (hA1 i)) (hl i) (hst i)) (hs i) (hw i) (h1 i), fun σ F H D r m => a2.2 σ F H r _ fun v F1 H1 s1 r1 hv => ?_⟩
  obtain ⟨t, u, w, rfl, ht, hu, hw'⟩ := hv
  refine ⟨t, [u, w], rfl, SqT.of (r1.sub _ _ ht), rfl, u, [w], rfl, ?_⟩
  obtain ⟨p, e1, _, _, _⟩ := r1.lend hj1 hj2
  refine ⟨.ref p, e1, b2.2 σ F1 H1 r1 _ fun y F2 H2 s2 r2 hy => ?_⟩
  obtain ⟨p', e1', ⟨fp, o, ho, vs, rfl, hr⟩, hm, wr⟩ := r2.lend hj1 hj2
  have ep : p' = p := by
    rw [e1] at e1'
    simpa using e1'.symm
  subst ep
  have sw : Stp [p'] F2 H2 F2 (upd H2 p' (.lst (vs.set n1 u))) := stp_write (by rw [ho]; simp)
  obtain ⟨r3, s3⟩ := wr F2 (upd H2 p' (.lst (vs.set n1 u))) (cl (xs.set n1 a)) sw (same_write r2.sub fp) ⟨fp, _, upd_same, _, rfl, hr.set n1 (Rep.mono s2.fr hu)⟩
  refine ⟨p', vs, i1, n1, rfl, hy, ho, by rw [hr.len]; exact hn1, w, [], rfl, ?_⟩
  rw [← ep1] at r3
  have st3 : Stp (owns σ sl) F H F2 (upd H2 p' (.lst (vs.set n1 u))) := (s1.trans s2 fun p hp => .inl (by rw [owns_kd a2.1]; exact hp)).trans s3 fun p hp => .inl (by rw [owns_kd a2.1]; exact hp)
  obtain ⟨p4, e4, _, _, _⟩ := r3.lend hk1 hk2
  refine ⟨.ref p4, e4, c2.2 σ F2 _ r3 _ fun y5 F5 H5 s5 r5 hy5 => ?_⟩
  obtain ⟨p6, e6, ⟨fp6, o6, ho6, vs6, rfl, hr6⟩, hm6, wr6⟩ := r5.lend hk1 hk2
  have ep6 : p6 = p4 := by
    rw [e4] at e6
    simpa using e6.symm
  subst ep6
  have sw6 : Stp [p6] F5 H5 F5 (upd H5 p6 (.lst (vs6.set n2 w))) := stp_write (by rw [ho6]; simp)
  have fr : ∀ b u, F1 b = some u → F5 b = some u := fun b u e => s5.fr b u (s3.fr b u (s2.fr b u e))
  obtain ⟨r7, s7⟩ := wr6 F5 (upd H5 p6 (.lst (vs6.set n2 w))) (cl ((xs.set n1 a).set n2 b)) sw6 (same_write r5.sub fp6) ⟨fp6, _, upd_same, _, rfl, hr6.set n2 (Rep.mono fr hw')⟩
  refine ⟨p6, vs6, i2, n2, rfl, hy5, ho6, by rw [hr6.len, List.length_set]; exact hn2, rfl, ?_⟩
  have ep2 := putC_eq (sl := putC sl1 j (cl (xs.set n1 a))) (cl ((xs.set n1 a).set n2 b)) hk1
  rw [ep2] at m
  have kd1 : sl.map Slot.kd = (putC sl1 j (cl (xs.set n1 a))).map Slot.kd := by
    rw [ep1]
    exact a2.1.trans (kd_set _ hj1)
  refine m σ F5 _ ?_ r7 (.same (kd1.trans (kd_set _ hk1)))
  exact (st3.trans s5 fun p hp => .inl (by rw [owns_kd kd1]; exact hp)).trans s7 fun p hp => .inl (by rw [owns_kd kd1]; exact hp)
/-- x, y, z = a new object and two values at once -/
theorem g1_par3n {β γ : Type} [Rep β] [Rep γ] {c : Ct} {b : β} {d : γ} (f : Fam X S) (i j l : Nat) {y z : Str} {k k2 : Nat} {pt pt2 : Pos} (h1 : EN X e1 sl sl1 c) (h : A X [e2, e3] sl1 sl2 [va b, va d]) (hN : S.N[i]? = some x) (hM : S.N[j]? = some y) (hL : S.N[l]? = some z) (hij : i ≠ j) (hil : i ≠ l) (hjl : j ≠ l)
    (hx : ∀ n, (X n).env.scope.names.lookup x = some .local) (hy : ∀ n, (X n).env.scope.names.lookup y = some .local) (hz : ∀ n, (X n).env.scope.names.lookup z = some .local)
    (he : ∀ n, starEach [e1, e2, e3] (X n).env = (false, eval e1 (X n).env) :: starEach [e2, e3] (X n).env := by intro _; rfl)
    (hw : ∀ n, swappedStores [.Tuple [.Name x p1, .Name y p2, .Name z p3] k pt] (.Tuple [e1, e2, e3] k2 pt2) (X n).env = pure (some [x, y, z]) := by intro _; rfl) (hs : ∀ n, swapsWithSole [.Tuple [.Name x p1, .Name y p2, .Name z p3] k pt] (.Tuple [e1, e2, e3] k2 pt2) pos.line (X n).env = pure false := by intro _; rfl) :
    G1 X (.Assign [.Tuple [.Name x p1, .Name y p2, .Name z p3] k pt] (.Tuple [e1, e2, e3] k2 pt2) pos) sl (.next (((sl2.set i (.own c)).set j (vl b)).set l (vl d)) : Out ρ) := by
  obtain ⟨te, a1, a2⟩ := h1
  obtain ⟨t, b1, b2⟩ := h
  refine ⟨_, fun n => ps_par3 (i := i) (j := j) (l := l) (f.calm n) (by rw [f.N n]; exact f.nd) (by rw [f.N n]; exact hN) (by rw [f.N n]; exact hM) (by rw [f.N n]; exact hL) hij hil hjl (hx n) (hy n) (hz n) (pa_cons (a1 n) (b1 n) (he n)) (hw n) (hs n), fun σ F H D r m => a2.2 σ F H r _ fun p F1 H1 s1 r1 hp hc => b2.2 σ F1 H1 r1 _ fun vs F2 H2 s2 r2 hv => ?_⟩
  obtain ⟨w, u, rfl, y2, y3⟩ := args2 hv
  have k1 : owns σ sl = owns σ sl1 := owns_kd a2.1
  have s12 : Stp (owns σ sl) F H F2 H2 := s1.trans s2 fun p hp => .inl (by rw [k1]; exact hp)
  have hc2 : Hold F2 H2 p c := hold_step hc s2 (by rw [← k1]; exact fresh_owns r hp)
  obtain ⟨g1, o1⟩ := reg_own i s12 r2 (a2.1.trans b2.1) r hp hc2
  obtain ⟨g2, o2, _⟩ := reg_put (s := vl b) (o := some w) j g1 trivial ⟨w, rfl, y2⟩ (by intro p c h; cases h)
  obtain ⟨g3, o3, _⟩ := reg_put (s := vl d) (o := some u) l g2 trivial ⟨u, rfl, y3⟩ (by intro p c h; cases h)
  exact ⟨.ref p, w, u, rfl, m _ F2 H2 s12 g3 (o1.trans (F := F) (F1 := F2) ((o2.trans (F := F2) (F1 := F2) o3 fun _ z => z)) fun p z => s12.free z)⟩
end
end Wk

/-! Wk42: values of any kind. -/
namespace Wk
open PySem L2
/-- a text, or a value of another kind -/
inductive Any where
  | t (l : Txt)
  | o
def IsOth (F : Hp) (v : V) : Prop := v = .non ∨ (∃ b, v = .bl b) ∨ (∃ i, v = .int i) ∨ ∃ p, v = .ref p ∧ ((∃ xs, F p = some (.lst xs)) ∨ (∃ xs, F p = some (.tup xs)) ∨ ∃ kvs, F p = some (.dK kvs))
theorem IsOth.mono {F F' : Hp} {v : V} (s : ∀ b u, F b = some u → F' b = some u) (h : IsOth F v) : IsOth F' v := by
  rcases h with h | h | h | ⟨p, e, h⟩
  · exact .inl h
  · exact .inr (.inl h)
  · exact .inr (.inr (.inl h))
  · refine .inr (.inr (.inr ⟨p, e, ?_⟩))
    rcases h with ⟨xs, h⟩ | ⟨xs, h⟩ | ⟨kvs, h⟩
    · exact .inl ⟨xs, s _ _ h⟩
    · exact .inr (.inl ⟨xs, s _ _ h⟩)
    · exact .inr (.inr ⟨kvs, s _ _ h⟩)
def Any.rep (F : Hp) (v : V) : Any → Prop
  | .t l => v = V.str (tx l)
  | .o => IsOth F v
instance anyRep : Rep Any where
  rep := Any.rep
  mono := fun {F F' v a} s h => by
    cases a with
    | t l => exact h
    | o => exact IsOth.mono s h
section
variable {ι : Type} {X : ι → Cx} {S : Sit} {sl sl1 sl2 : List Slot} {α : Type} [Rep α] {a : α} {l : Txt} {e e1 e2 : Expr} {pos p1 p2 apos : Pos}
theorem e_cast {β : Type} [Rep β] {b : β} (h : E X e sl sl1 a) (k : ∀ F v, Rep.rep F v a → Rep.rep F v b) : E X e sl sl1 b := by
  obtain ⟨te, h1, h2⟩ := h
  exact ⟨te, h1, h2.1, fun σ F H r Q q => h2.2 σ F H r Q fun v F' H' s r' hv => q v F' H' s r' (k F' v hv)⟩
theorem e_t (h : E X e sl sl1 l) : E X e sl sl1 (Any.t l) := e_cast h fun _ _ h => h
theorem e_tx (h : E X e sl sl1 (Any.t l)) : E X e sl sl1 l := e_cast h fun _ _ h => h
theorem e_unit (h : E X e sl sl1 ()) : E X e sl sl1 Any.o := e_cast h fun _ _ h => .inl h
theorem e_bool {b : Bool} (h : E X e sl sl1 b) : E X e sl sl1 Any.o := e_cast h fun _ _ h => .inr (.inl ⟨b, h⟩)
theorem e_int {i : Int} (h : E X e sl sl1 i) : E X e sl sl1 Any.o := e_cast h fun _ _ h => .inr (.inr (.inl ⟨i, h⟩))
theorem e_list {xs : List α} (h : E X e sl sl1 xs) : E X e sl sl1 Any.o := e_cast h fun _ _ ⟨p, vs, e, h, _⟩ => .inr (.inr (.inr ⟨p, e, .inl ⟨vs, h⟩⟩))
theorem e_tup {xs : Tup α} (h : E X e sl sl1 xs) : E X e sl sl1 Any.o := e_cast h fun _ _ ⟨p, vs, e, h, _⟩ => .inr (.inr (.inr ⟨p, e, .inr (.inl ⟨vs, h⟩)⟩))
theorem e_dict {kvs : List (Key × V)} (h : EN X e sl sl1 (cdk kvs)) : E X e sl sl1 Any.o := by
  obtain ⟨te, h1, h⟩ := h
  refine ⟨te, h1, h.1, fun σ F H r Q q => h.2 σ F H r Q fun p F' H' s r' hp hh => ?_⟩
  obtain ⟨f, o, ho, hc⟩ := hh
  have eo : o = .dK kvs := hc
  subst eo
  have hn : p ∉ owns σ sl1 := by rw [← owns_kd h.1]; exact fresh_owns r hp
  exact q (.ref p) (upd F' p (.dK kvs)) H' (stp_frz s hp f) (r'.frz f ho hn) (.inr (.inr (.inr ⟨p, rfl, .inr (.inr ⟨kvs, upd_same⟩)⟩)))
theorem oth_ty {K : PySem.W.Frag} {F H : Hp} {v : V} (sm : Same F H) (h : IsOth F v) : ∃ ty : String, TyX K H v (.type ty) ∧ kitB ty "str" = some false := by
  rcases h with rfl | ⟨b, rfl⟩ | ⟨i, rfl⟩ | ⟨p, rfl, h⟩
  · exact ⟨"NoneType", .base .non, by decide +kernel⟩
  · exact ⟨"bool", .base (.bl b), by decide +kernel⟩
  · exact ⟨"int", .base (.int i), by decide +kernel⟩
  · rcases h with ⟨xs, h⟩ | ⟨xs, h⟩ | ⟨kvs, h⟩
    · exact ⟨"list", .base (.lst (sm _ _ h)), by decide +kernel⟩
    · exact ⟨"tuple", .base (.tup (sm _ _ h)), by decide +kernel⟩
    · exact ⟨"dict", .base (.dK (sm _ _ h)), by decide +kernel⟩
/-- isinstance(value, str), the value being of another kind -/
theorem x_notStr (f : Fam X S) (h : E X e sl sl1 Any.o) (hg : ∀ i, Gl (X i) "isinstance") (hm : S.mg "isinstance" = none) (hg2 : ∀ i, Gl (X i) "str") (hm2 : S.mg "str" = none) (he : ∀ i, starEach [e, .Name "str" p2] (X i).env = (false, eval e (X i).env) :: starEach [.Name "str" p2] (X i).env := by intro _; rfl) (hpl : ∀ i, (backTo pos (starEach [.Name "str" p2] (X i).env)).any (·.1) = false := by intro _; rfl) :
    E X (.Call (.Name "isinstance" p1) [e, .Name "str" p2] [] pos) sl sl1 false := by
  obtain ⟨te, a1, a2⟩ := h
  refine ⟨tCB (rIsi S.K) (tCons te (tCons (tC (.ty "str")) tNil)), fun i => ?_, a2.1, fun σ F H r Q q => a2.2 σ F H r _ fun v F1 H1 s1 r1 hv => ?_⟩
  · have z := pe_callB (p := p1) (pos := pos) (call_isi (X := X i)) (hg i) (by rw [f.mg i]; exact hm) PyProof.Rows.boot_isinstance (pa_cons (a1 i) (pa_cons (pe_bltn (pos := p2) (v := .ty "str") (hg2 i) (by rw [f.mg i]; exact hm2) PyProof.Rows.boot_str rfl) pa_nil rfl) (he i)) (by decide) (by decide) (he i) (hpl i)
    rw [f.K i] at z
    exact z
  · obtain ⟨ty, h1, h2⟩ := oth_ty (K := S.K) r1.sub hv
    exact ⟨v, .ty "str", .type ty, .type "str", false, rfl, .ty "str", h1, kit_ty h2, q _ F1 H1 s1 r1 rfl⟩
/-- - int -/
theorem x_neg {i : Int} (f : Fam X S) (h : E X e sl sl1 i) : E X (.UnaryOp .USub e pos) sl sl1 (-i) := by
  obtain ⟨te, a1, a2⟩ := h
  exact ⟨_, fun n => pe_un un_neg (a1 n), a2.1, fun σ F H r Q q => a2.2 σ F H r _ fun v F1 H1 s1 r1 hv => ⟨i, hv, q _ F1 H1 s1 r1 rfl⟩⟩
/-- text * int -/
def rRepS : R2 := fun x y H Q => ∃ (a : Str) (k : Int), x = .str a ∧ y = .int k ∧ 2 ≤ k ∧ k ≤ 1000 ∧ 0 < a.length ∧ a.length ≤ 1000 ∧ (⟨(List.replicate k.toNat a.cps).foldl (· ++ ·) #[]⟩ : Str).length ≤ sizeLine ∧ Q (.str ⟨(List.replicate k.toNat a.cps).foldl (· ++ ·) #[]⟩) H
theorem op_repS {X : Cx} : OpR X (binaryOp .Mult) rRepS := by
  intro pins s σ H x y v u Q I rx ry h
  obtain ⟨a, k, rfl, rfl, h1, h2, h3, h4, h5, q⟩ := h
  obtain ⟨t, rfl⟩ := rx
  obtain ⟨t', rfl⟩ := ry
  have e1 : (k == 1 || a.length == 0) = false := by
    rw [Bool.or_eq_false_iff]
    exact ⟨by simp; omega, by simp; omega⟩
  refine PySem.P.mul_str (by rw [Bool.or_eq_false_iff, decide_eq_false_iff_not, decide_eq_false_iff_not]; exact ⟨by omega, by omega⟩) (fun _ _ => ?_) (fun _ _ => ?_) ?_
  · have y : (2 ^ 63 - 1) / 1000 ≤ (2 ^ 63 - 1) / k := by
      rw [Int.le_ediv_iff_mul_le (by omega)]
      have y2 : (2 ^ 63 - 1 : Int) / 1000 * k ≤ (2 ^ 63 - 1) / 1000 * 1000 := Int.mul_le_mul_of_nonneg_left h2 (by decide)
      have y3 : (2 ^ 63 - 1 : Int) / 1000 * 1000 ≤ 2 ^ 63 - 1 := by decide
      omega
    have y4 : (1000 : Int) ≤ (2 ^ 63 - 1) / 1000 := by decide
    omega
  · have y : a.length * k.toNat ≤ 1000 * 1000 := Nat.mul_le_mul h4 (by omega)
    have e2 : ¬ a.length * k.toNat > sizeLine := by rw [sizeLine_eq]; omega
    exact decide_eq_false e2
  · rw [if_neg (by omega), if_neg (by rw [e1]; decide)]
    exact ⟨h5, .str _, H, I.tok _, ⟨_, rfl⟩, q⟩
theorem x_repS {l r : Txt} {k : Int} (f : Fam X S) (ha : E X e1 sl sl1 l) (hb : E X e2 sl1 sl2 k) (h1 : 2 ≤ k ∧ k ≤ 1000) (h2 : 0 < l.length ∧ l.length ≤ 1000) (hv : (⟨(List.replicate k.toNat (tx l).cps).foldl (· ++ ·) #[]⟩ : Str) = tx r) (hr : r.length ≤ 1000000) : E X (.BinOp e1 .Mult e2 pos) sl sl2 r :=
  x_op f (fun _ => op_repS) ha hb fun F H x y sm hx hy Q q => ⟨tx l, k, hx, hy, h1.1, h1.2, by rw [tx_len]; exact h2.1, by rw [tx_len]; exact h2.2, by rw [hv, tx_len, sizeLine_eq]; omega, by rw [hv]; exact q _ rfl⟩
/-- one sign, upper case -/
def upC (c : Nat) : Nat := if 97 ≤ c ∧ c ≤ 122 then c - 32 else c
theorem x_upper1 {c : Nat} (f : Fam X S) (h : E X e sl sl1 ([c] : Txt)) (hc : c < 128) (hbase : ∀ i, attributeBase e "upper" (X i).env (eval e (X i).env) = eval e (X i).env := by intro _; rfl) (hline : (apos.endLine == pos.line) = true := by rfl) : E X (.Call (.Attribute e "upper" apos) [] [] pos) sl sl1 ([upC c] : Txt) := by
  obtain ⟨te, a1, a2⟩ := h
  refine ⟨_, fun i => pe_upper (a1 i) (hbase i) hline, a2.1, fun σ F H r Q q => a2.2 σ F H r _ fun v F1 H1 s1 r1 hv => ⟨⟨_, hv⟩, tx [c], hv, rfl, by rw [tx_len]; show 1 ≤ 5592405; decide, ?_⟩⟩
  have e1 : Txt.upper (tx [c]) = tx [upC c] := PySem.W.KOpn.upper_one hc
  rw [e1]
  exact q _ F1 H1 s1 r1 rfl
end
end Wk

/-! Wk43: a def under another name. -/
namespace Wk
open PySem L2
/-- the def x at the name g of the top -/
def DfnA (K : PySem.W.Frag) (g x : Str) (st : Stmt) : Prop := ∃ f fd, PySem.W.nsIn K mainGlobals g = some (some (.ref f)) ∧ Fun K x x st f fd ∧ PySem.W.keepIn K (.ref f) = true
theorem dfa_mk {K : PySem.W.Frag} {g x : Str} {st : Stmt} {f : Addr} {oc kV doc pm cdv ct : Value} {od an : Option Addr} {osl : Array (Option Value)} (a : PySem.W.nsIn K mainGlobals g = some (some (.ref f)))
    (l : K.lookup f = some ⟨oc, od, .func (PySem.W.fnOf x x (defArgs st) (defBody st) (defScope st) .none kV doc pm an cdv ct), osl⟩) (c : PySem.W.codeIn K cdv x = true) (k : PySem.W.keepIn K (.ref f) = true) : DfnA K g x st :=
  ⟨f, _, a, fun_mk l c k, k⟩
section
variable {P : Program} {w : World} {K : PySem.W.Frag} {mg : Str → Option Value} {base h : Heap} {g x : Str} {st : Stmt}
theorem fnc_mkA {k : Nat} {ps : List Str} {q : Pr} (d : DfnA K g x st) (X : K.In h) (G : h.Ns mainGlobals mg) (ok : ∀ f fd, Fun K x x st f fd → FnG P w K mg base CX0 k f fd ps q.sp)
    (hb : ∀ (kV doc pm : Value) (an : Option Addr) (cdv ct : Value) (us : List Value), us.length = ps.length → bindArgs (PySem.W.fnOf x x (defArgs st) (defBody st) (defScope st) .none kV doc pm an cdv ct) ⟨us, []⟩ = pure (ps.zip us)) : Fnc P w K mg base k g ps q := by
  obtain ⟨f, fd, a, F, kp⟩ := d
  exact ⟨f, fd, PySem.W.mg_of X G a, kp, F.binds hb, ok f fd F, st, _, _, F⟩
theorem fnk_mkA {k n : Nat} {ps ks : List Str} {tn : Bool} {q : Pr} (d : DfnA K g x st) (X : K.In h) (G : h.Ns mainGlobals mg) (ok : ∀ f fd, Fun K x x st f fd → FnG P w K mg base CX0 k f fd ps q.sp)
    (hb : ∀ (kV doc pm : Value) (an : Option Addr) (cdv ct : Value) (us ws : List Value), us.length = n → ws.length = ks.length → bindArgs (PySem.W.fnOf x x (defArgs st) (defBody st) (defScope st) .none kV doc pm an cdv ct) ⟨us, ks.zip ws⟩ = pure (ps.zip (us ++ (if tn then ws.reverse else ws)))) : Fnk P w K mg base k g ps n ks tn q := by
  obtain ⟨f, fd, a, F, kp⟩ := d
  exact fnk_of F (PySem.W.mg_of X G a) kp (ok f fd F) hb
end
end Wk

/-! Wk44: while. -/
namespace Wk
open PySem L2
section
variable {ι : Type} {X : ι → Cx} {S : Sit} {sl : List Slot} {τ ρ : Type} [Rep ρ] {e : Expr} {body : List Stmt} {pos : Pos}
/-- while: by a state, its test, its step, a measure -/
theorem g1_while (f : Fam X S) (St : τ → List Slot) (t0 tE : τ) (test : τ → Bool) (step : τ → τ) (Inv : τ → Prop) (μ : τ → Nat) (h0 : Wks sl (St t0)) (i0 : Inv t0) (ht : ∀ t, Inv t → T X e (St t) (St t) (test t))
    (hb : ∀ t, Inv t → test t = true → (∃ s1, G X body (St t) (.next s1 : Out ρ) ∧ Wks s1 (St (step t))) ∧ Inv (step t) ∧ μ (step t) < μ t) (hE : ∀ t, Inv t → test t = false → t = tE) : G1 X (.While e body [] pos) sl (.next (St tE) : Out ρ) := by
  refine ⟨_, fun i => ps_while (by rw [f.xe i]; exact PassesOwn.never) (uT_ok i) (uS_ok i), fun σ F H D r m => ?_⟩
  have r0 := r.wk h0
  refine ⟨fun n σ' H' => ∃ t F', Stp (owns σ sl) F H F' H' ∧ Reg F' H' σ' (St t) ∧ OwnOk σ sl H σ' (St t) ∧ Inv t ∧ n = μ t, ⟨_, t0, F, .refl _ _ _, r0.1, r0.2, i0, rfl⟩, ?_⟩
  rintro n σ' H' ⟨t, F', s', r', o', iv, rfl⟩
  refine (ht t iv).u.2 σ' F' H' r' _ fun F1 H1 s1 r1 => ?_
  have sT := s'.trans s1 (o'.owns r)
  cases hq : test t with
  | true =>
    rw [if_pos rfl]
    obtain ⟨⟨sb, g, wk⟩, iv2, lt⟩ := hb t iv hq
    refine ⟨fun σ2 H2 => ∃ t2 F2, Stp (owns σ sl) F H F2 H2 ∧ Reg F2 H2 σ2 (St t2) ∧ OwnOk σ sl H σ2 (St t2) ∧ Inv t2 ∧ μ t2 < μ t, fun σ2 H2 ⟨t2, F2, a, b, c, d, l⟩ => ⟨μ t2, l, t2, F2, a, b, c, d, rfl⟩, ?_⟩
    refine g.u σ' F1 H1 _ r1 fun σ4 F4 H4 s4 r4 o5 => ?_
    have r5 := r4.wk wk
    have o6 : OwnOk σ sl H σ4 sb := o'.trans (F := F) (F1 := F1) o5 fun p z => sT.free z
    exact ⟨step t, F4, sT.trans s4 (o'.owns r), r5.1, o6.trans (F := F) (F1 := F4) r5.2 (fun p z => (sT.trans s4 (o'.owns r)).free z), iv2, lt⟩
  | false =>
    rw [if_neg Bool.false_ne_true]
    have e0 := hE t iv hq
    subst e0
    exact m σ' F1 H1 sT r1 o'
end
end Wk

/-! Wk45: sorted(text). -/
namespace Wk
open PySem L2
theorem obj_there {P : Program} {w : World} {H : Hp} {h : Heap} {a : Addr} {o : HO} (x : ObjOk P w H h a o) : ∃ u, h.get? a = some u := by
  cases o with
  | lst xs => obtain ⟨_, _, _, _, e⟩ := x; exact ⟨_, e⟩
  | tup xs => obtain ⟨_, _, _, ob, e, _⟩ := x; exact ⟨_, e⟩
  | dK kvs => obtain ⟨_, _, _, _, ob, _, _, e, _⟩ := x; exact ⟨_, e⟩
  | dT kvs => obtain ⟨_, _, _, _, ob, _, _, e, _⟩ := x; exact ⟨_, e⟩
  | set S n => obtain ⟨ob, _, _, _, e, _⟩ := x; exact ⟨_, e⟩
  | ins C dx fs => obtain ⟨_, _, _, e, _⟩ := x; exact ⟨_, e⟩
  | own y => obtain ⟨ob, e⟩ := x; exact ⟨_, e⟩
  | xd fs => obtain ⟨mA, ⟨od, _, _, e, _⟩, _⟩ := x; exact ⟨_, e⟩
  | rng lo hi => obtain ⟨_, _, _, e⟩ := x; exact ⟨_, e⟩
  | frz ob u => exact ⟨_, x.1⟩
  | tbl ps => exact ⟨_, x⟩
  | met f y => exact ⟨_, x⟩
  | ext φ => exact x.2.1
theorem txt_sorted {P : Program} {w : World} {A : Around} {B : Value → Shared → Prop} {z : Shared} {l : Txt} {u : Tok} {Q : Value → Shared → Prop} (calm : A.handled = none) (few : l.length < 64)
    (fin : ∀ (z' : Shared) (p : Addr) (out : Array Value) (n : Nat) (ys : List Str), (∀ b o, z.heap.get? b = some o → z'.heap.get? b = some o) → z'.gens = z.gens → z'.os = z.os → z.heap.get? p = none → z'.heap.get? p = some (PyProof.Rows.seqObj "list" out n) →
      PyProof.Rows.StrsAre out.toList ys → ys.Perm (l.map fun c => tx [c]) → PyProof.Rows.sortedS ys = true → Q (.ref p) z') : wpAny (model P w) A (call (.builtin "sorted") [.str (tx l) u]) Q B z := by
  refine Calls.call_function_entry PyProof.Rows.kind_sorted PyProof.Rows.plain_sorted PyProof.Rows.entry_sorted (PyProof.Rows.args_sorted1 _) ?_
  unfold Builtin.«sorted»
  have sz : (tx l).cps.size = l.length := by
    have y := congrArg List.length (tx_cps l)
    rw [Array.length_toList] at y
    exact y
  refine wpAny_bind (m := checkCount "sorted" 1 1 _) (wpAny_pure (wpAny_bind (wpAny_collect_str (A := A.in1) calm (tx l) u (fun z1 acc k1 g1 d1 o1 it => ?_) (by rw [sz, sizeLine_eq]; omega))))
  obtain ⟨i1, i2⟩ := it
  rw [sz] at i1
  have at1 : ∀ (j : Nat) (v : Value), acc.toList[j]? = some v → ∃ c u, l[j]? = some c ∧ v = Value.str (tx [c]) u := fun j v hj => by
    rw [Array.getElem?_toList] at hj
    obtain ⟨c, u, h1, h2⟩ := i2 j v hj
    refine ⟨c, u, ?_, h2⟩
    rw [← Array.getElem?_toList, tx_cps] at h1
    exact h1
  have alen : acc.toList.length = l.length := by rw [Array.length_toList]; exact i1
  generalize acc.toList = vs at at1 alen
  have hS : PyProof.Rows.StrsAre vs (vs.map PyProof.Rows.strOf) := PyProof.Rows.strsAre_map vs fun v hv => by
    obtain ⟨j, hj⟩ := List.getElem?_of_mem hv
    obtain ⟨c, u, _, h2⟩ := at1 j v hj
    exact ⟨_, u, h2⟩
  have pk : vs.map PyProof.Rows.strOf = l.map fun c => tx [c] := by
    apply List.ext_getElem?
    intro j
    rw [List.getElem?_map, List.getElem?_map]
    by_cases hj : j < vs.length
    · obtain ⟨c, u, h1, h2⟩ := at1 j vs[j] (List.getElem?_eq_getElem hj)
      rw [List.getElem?_eq_getElem hj, h1, h2]
      rfl
    · rw [List.getElem?_eq_none (by omega), List.getElem?_eq_none (by omega)]
      rfl
  refine wpAny_bind (wpAny_newList ?_ (by rw [sizeLine_eq]; omega))
  have hoL : (z1.heap.push (PyProof.Rows.seqObj "list" vs.toArray 0)).get? z1.heap.objs.size = some (PyProof.Rows.seqObj "list" vs.toArray 0) := Heap.get?_push_size _ rfl
  refine wpAny_bind (wpAny_holding (wpAny_call_entry PyProof.Rows.slot_list_sort ⟨_, hoL, rfl⟩ PyProof.Rows.entry_list_sort
    (PyProof.Rows.list_sort_treeK PyProof.Rows.strKind_oneLt hoL hS.keysOf (fun v₁ v₂ rest e => PyProof.Rows.keyKind_strs (by rw [← e]; exact hS)) (by omega) fun so hpm hso => ⟨_, rfl, ?_⟩) (PyProof.Rows.args_list_sort _)))
  obtain ⟨ys, y1, y2, y3⟩ := PyProof.Rows.sorted_out_str hS hpm hso
  obtain ⟨n, hat⟩ := PyProof.Rows.sortedHeap_at (vs := vs) (out := (PyProof.Rows.arrOf so).map (·.2)) hoL
  rw [pk] at y2
  refine wpAny_pure ⟨_, rfl, fin _ z1.heap.objs.size _ n ys (fun b o hb => ?_) g1 o1 ?_ hat y1 y2 y3⟩
  · have q := k1 b o hb
    have lt := Heap.lt_size q
    show (PyProof.Rows.sortedHeap (z1.heap.push (PyProof.Rows.seqObj "list" vs.toArray 0)) z1.heap.objs.size vs _).get? b = some o
    rw [PyProof.Rows.sortedHeap_old (Nat.ne_of_lt lt) (by rw [PyProof.Rows.size_push']; exact Nat.lt_succ_of_lt lt)]
    exact Heap.get?_push_of_some _ q
  · cases e : z.heap.get? z1.heap.objs.size with
    | none => rfl
    | some o => exact absurd (Heap.lt_size (k1 _ _ e)) (Nat.lt_irrefl _)
def rSortedC : List V → Hp → VK → Prop := fun xs H Q => ∃ l : Txt, xs = [.str (tx l)] ∧ l.length < 64 ∧ ∀ (ys : List Str) (p : Addr), ys.Perm (l.map fun c => tx [c]) → PyProof.Rows.sortedS ys = true → H p = none → Q (.ref p) (upd H p (.lst (ys.map V.str)))
theorem cr_sortedC {X : Cx} (hc : X.calm = true) : CallR X (.builtin "sorted") rSortedC := by
  intro pins z σ H xs us Q I r h
  obtain ⟨l, rfl, few, q⟩ := h
  obtain ⟨u, rfl, ru⟩ := Vals.one r
  obtain ⟨t, rfl⟩ := ru
  refine txt_sorted (I.ok.hd hc) few fun z3 p out n ys k3 g3 o3 hp ho hs pm hss => ?_
  have hn : H p = none := by
    cases e : H p with
    | none => rfl
    | some w =>
      obtain ⟨o, y⟩ := obj_there (I.hok p w e)
      rw [hp] at y
      cases y
  have yl : ys.length ≤ sizeLine := by
    rw [pm.length_eq, List.length_map, sizeLine_eq]
    omega
  have J : Inv X pins σ (upd H p (.lst (ys.map V.str))) z3 :=
    Inv.call' (ch := []) I o3 (Un.laidN k3 hp hn) (I.hok.laidN k3 hn ⟨by rw [List.length_map]; exact yl, out.toList, n, vals_of_strs hs, by rw [Array.toArray_toList]; exact ho⟩) (by rw [g3]; exact I.bare) (fun _ y => nomatch y)
  exact ⟨.ref p, _, J, rfl, q ys p pm hss hn⟩
section
variable {ι : Type} {X : ι → Cx} {S : Sit} {sl sl1 : List Slot} {e : Expr} {pos p1 : Pos}
/-- sorted(text) -/
theorem x_sortedC {l u : Txt} (f : Fam X S) (h : E X e sl sl1 l) (hp : u.Perm l) (hs : u.Pairwise (· ≤ ·)) (few : l.length < 64) (hg : ∀ i, Gl (X i) "sorted") (hm : S.mg "sorted" = none)
    (he : ∀ i, starEach [e] (X i).env = (false, eval e (X i).env) :: starEach [] (X i).env := by intro _; rfl) : EN X (.Call (.Name "sorted" p1) [e] [] pos) sl sl1 (cl (u.map fun c => ([c] : Txt))) :=
  x_callBN f (r := rSortedC) (fun i => cr_sortedC (f.calm i)) (a_v h a_nil he) (fun σ F H H0 vs g hA Q q => by
    obtain ⟨v, rfl, hv⟩ := args1 hA
    refine ⟨l, by rw [show v = _ from hv]; rfl, few, fun ys p pm so hp2 => ?_⟩
    have e3 : ys = u.map fun c => tx [c] := by
      refine List.Perm.eq_of_pairwise (le := fun a b : Str => ¬ b.cps.toList < a.cps.toList) (fun a b _ _ h1 h2 => ?_) ?_ ?_ (pm.trans (hp.map _).symm)
      · rw [List.not_lt] at h1 h2
        have := List.le_antisymm h1 h2
        cases a; cases b
        simpa using this
      · cases ys with
        | nil => exact List.Pairwise.nil
        | cons y ys => exact rising_pw ys y so
      · refine List.pairwise_map.mpr (hs.imp fun {a b} h => ?_)
        rw [tx_cps, tx_cps]
        intro y
        rw [List.cons_lt_cons_iff] at y
        rcases y with y | ⟨_, y⟩
        · omega
        · exact absurd y (List.not_lt_nil _)
    refine q _ ⟨_, rfl, ?_⟩ p hp2
    rw [Reps.flat, e3, List.map_map, List.map_map]
    rfl) hg hm PyProof.Rows.boot_sorted (he := he)
end
end Wk

/-! Wk46: sorted(set(list of texts)). -/
namespace Wk
open PySem L2
def gatherS (ks : List Str) : List Str := ks.foldl (fun acc k => addK k acc) []
theorem gatherS_step {ks : List Str} {i : Nat} {k : Str} (h : ks[i]? = some k) : gatherS (ks.take (i + 1)) = addK k (gatherS (ks.take i)) := by
  unfold gatherS
  rw [List.take_add_one, h, List.foldl_append]
  rfl
theorem addK_len (k : Str) (ks : List Str) : (addK k ks).length ≤ ks.length + 1 := by
  unfold addK
  split
  · omega
  · simp
theorem gatherS_len (ks : List Str) : (gatherS ks).length ≤ ks.length := by
  have aux : ∀ (ks acc : List Str), (ks.foldl (fun acc k => addK k acc) acc).length ≤ acc.length + ks.length := by
    intro ks
    induction ks with
    | nil => intro acc; simp
    | cons c l ih =>
      intro acc
      have h1 := ih (addK c acc)
      have h2 := addK_len c acc
      simp only [List.foldl_cons, List.length_cons]
      omega
  simpa [gatherS] using aux ks []
theorem gatherS_spec (ks : List Str) : (gatherS ks).Nodup ∧ ∀ x, x ∈ gatherS ks ↔ x ∈ ks := by
  have aux : ∀ (ks acc : List Str), acc.Nodup → (ks.foldl (fun acc k => addK k acc) acc).Nodup ∧ ∀ x, x ∈ ks.foldl (fun acc k => addK k acc) acc ↔ x ∈ acc ∨ x ∈ ks := by
    intro ks
    induction ks with
    | nil => intro acc h; exact ⟨h, fun x => by simp⟩
    | cons c l ih =>
      intro acc h
      have h1 : (addK c acc).Nodup := by
        unfold addK
        split
        · exact h
        · exact List.nodup_cons.mpr ⟨by assumption, h⟩
      have h2 : ∀ x, x ∈ addK c acc ↔ x = c ∨ x ∈ acc := fun x => by
        unfold addK
        split
        · rename_i q
          exact ⟨.inr, fun y => y.elim (fun y => y ▸ q) id⟩
        · exact List.mem_cons
      obtain ⟨i1, i2⟩ := ih _ h1
      refine ⟨i1, fun x => ?_⟩
      rw [List.foldl_cons, i2 x, h2 x, List.mem_cons]
      exact ⟨fun y => y.elim (fun y => y.elim (fun z => .inr (.inl z)) .inl) fun z => .inr (.inr z), fun y => y.elim (fun z => .inl (.inr z)) fun y => y.elim (fun z => .inl (.inl z)) .inr⟩
  obtain ⟨h1, h2⟩ := aux ks [] List.nodup_nil
  exact ⟨h1, fun x => by unfold gatherS; rw [h2 x]; simp⟩
section
variable {P : Program} {w : World} {A : Around} {B : Value → Shared → Prop} {at0 : Addr} {ks : List Str} {items : Array Value} {itr : Addr} {fp wr : List Addr} {n : Nat} {Tw : Nat → Heap → Prop} {R : Result → Shared → Prop}
theorem bag_loopS (go : Walks P w A.in1 itr fp wr n (fun i v => items[i]? = some v) Tw) (hits : ∀ (i : Nat) (v : Value), items[i]? = some v → ∃ k u, ks[i]? = some k ∧ v = Value.str k u) (hn : n = ks.length) (hfp : at0 ∉ fp) (few : ks.length + 1 < scanBound) : ∀ (k i : Nat) (z : Shared), n - i = k → i ≤ n → Tw i z.heap → Bag w z.heap at0 (gatherS (ks.take i)) →
    (∀ m' tk, (∀ b o, b ≠ at0 → b ∉ wr → z.heap.get? b = some o → m'.get? b = some o) → Bag w m' at0 (gatherS ks) → R (.ok (.ret .none)) { z with heap := m', toks := tk }) →
    codeAny (model P w) A (.builtin "set.update.loop" ⟨[.ref at0, .ref itr], []⟩) R z := by
  have hwr : at0 ∉ wr := fun q => hfp (go.sub _ q)
  intro k
  induction k with
  | zero =>
    intro i z hk hi st bg fin
    have e : i = n := by omega
    refine codeAny_builtin PyProof.Rows.F.entry_set_update_loop ?_
    rw [Around.under_plainId PyProof.Rows.F.plain_set_update_loop _]
    show wpAny _ A.in1 (pyNext (.ref itr) >>= _) _ _ z
    refine wpAny_bind (go.done z _ _ (by rw [← e]; exact st) fun m' tk hm => ?_)
    rw [e, hn, List.take_length] at bg
    exact wpAny_pure (fin m' tk (fun b o _ hb => hm b o hb) (bg.at fun o => hm at0 o hwr))
  | succ k ih =>
    intro i z hk hi st bg fin
    have lt : i < n := by omega
    refine codeAny_builtin PyProof.Rows.F.entry_set_update_loop ?_
    rw [Around.under_plainId PyProof.Rows.F.plain_set_update_loop _]
    show wpAny _ A.in1 (pyNext (.ref itr) >>= _) _ _ z
    refine wpAny_bind (go.item i z _ _ lt st fun v m1 tk at1 st1 hm => ?_)
    obtain ⟨c, u, hc, rfl⟩ := hits i v at1
    show wpAny _ A.in1 (holding [Value.str c u] (setAdd at0 (.str c u)) >>= _) _ _ _
    refine wpAny_bind (wpAny_holding ?_)
    unfold setAdd
    refine wpAny_holding (wpAny_bind ((PySem.strKind P w).pyHash (k := c) (PySem.strKind_is _ _ _ _) ?_))
    have glen := gatherS_len (ks.take i)
    have tlen : (ks.take i).length ≤ ks.length := by simp; omega
    refine bag_add (P := P) (ks := gatherS (ks.take i)) (z := { z with heap := m1, toks := tk + 1 }) (bg.at fun o => hm at0 o hwr) (by omega) fun r m2 same bg2 => ?_
    refine wpAny_pure ⟨plainId_quiet PyProof.Rows.F.plain_set_update_loop _, ih (i + 1) { z with heap := m2, toks := tk + 1 } (by omega) lt (go.frame _ _ _ st1 fun b hb o he => ?_) (by rw [gatherS_step hc]; exact bg2) fun m3 tk3 hm3 bg3 => ?_⟩
    · exact (same.2 b (fun q => hfp (q ▸ hb))).trans he
    · exact fin m3 tk3 (fun b o h1 h2 h3 => hm3 b o h1 h2 ((same.2 b h1).trans (hm b o h2 h3))) bg3
set_option maxHeartbeats 8000000 in
/-- set(list of texts) -/
theorem call_set_txts {z : Shared} {l : Addr} {Q : Value → Shared → Prop} (calm : A.handled = none) (hl : z.heap.IsList l items) (hits : ∀ (i : Nat) (v : Value), items[i]? = some v → ∃ k u, ks[i]? = some k ∧ v = Value.str k u) (hn : items.size = ks.length) (few : ks.length + 1 < scanBound)
    (fin : ∀ (m' : Heap) (tk : Nat), Bag w m' z.heap.objs.size (gatherS ks) → (∀ b o, z.heap.get? b = some o → m'.get? b = some o) → Q (.ref z.heap.objs.size) { z with heap := m', toks := tk }) :
    wpAny (model P w) A (call (.type "set") [.ref l]) Q B z := by
  obtain ⟨mc, mt, hmro⟩ := F.called_set.mro
  have hmade := F.called_set.made
  have hsub := F.called_set.sub
  refine wpAny_call (codeAny_of_tree ?_)
  show wpAny _ _ (callAny (.type "set") _) _ _ _
  refine wpAny_pure ⟨Code.quiet_builtin _ (by decide +kernel), codeAny_builtin F.entry_type_call ?_⟩
  rw [Around.under_plain (weight_type_call_type "set" [.ref l] []) rfl]
  have f1 := F.called_set.notType
  have f2 := F.called_set.canCreate
  have f3 := F.typeCall_set_1 (.ref l)
  repeat (any_goals (first | assumption | wp_step))
  refine codeAny_mono (code_set_led1 (.ref l) (E := B) (Q₁ := fun ob z1 => ob = .ref z.heap.objs.size ∧ z1 = { z with heap := z.heap.push (freshSet w) }) ⟨rfl, rfl⟩) fun res z1 hres => ?_
  cases res with
  | error _ => exact hres
  | ok fl =>
    cases fl with
    | ret ob =>
      obtain ⟨rfl, rfl⟩ := hres
      have g0 : (z.heap.push (freshSet w)).get? z.heap.objs.size = some (freshSet w) := Heap.get?_push_size _ rfl
      have hT : Shared.TypeIs { z with heap := z.heap.push (freshSet w) } (.ref z.heap.objs.size) "set" := ⟨_, g0, rfl⟩
      have f4 := F.called_set.init.lookup
      have f5 := F.called_set.init.bind (.ref z.heap.objs.size)
      repeat (any_goals (first | assumption | wp_step))
      refine codeAny_mono (codeAny_call_builtin (R := wants (fun r z2 => r = .none ∧ ∃ m' tk, z2 = { z with heap := m', toks := tk } ∧ Bag w m' z.heap.objs.size (gatherS ks) ∧ (∀ b o, z.heap.get? b = some o → m'.get? b = some o)) B) F.called_set.init.plain F.entry_set_init (check_set_init_1 hT ?_)) fun res2 z2 hres2 => ?_
      · obtain ⟨ol, hol, hcl, nl, hdl⟩ := hl
        obtain ⟨ocls, odict, odata, oslots⟩ := ol
        simp only at hcl hdl
        subst hcl; subst hdl
        have hol' : (z.heap.push (freshSet w)).get? l = some { cls := .type "list", dict := odict, data := .seq items nl, slots := oslots } := Heap.get?_push_of_some _ hol
        have hsls := PySem.F.sub_list_set
        have hslf := PySem.F.sub_list_frozenset
        have hne : (Value.type "list" == Value.type "dict") = false := by decide
        have hl1 : (z.heap.push (freshSet w)).IsList l items := ⟨_, hol', rfl, nl, rfl⟩
        unfold Builtin.«set.__init__» noKeywords Builtin.Frozenset.updateFrom
        generalize hPI : pyIter = PI
        wp_walk
        subst hPI
        refine wpAny_pyIter_list hl1 ?_
        refine wpAny_bind (wpAny_runValue ?_)
        have hlS : l < z.heap.objs.size := Heap.lt_size hol
        have hz1 : (z.heap.push (freshSet w)).objs.size = z.heap.objs.size + 1 := Heap.size_push ..
        have calm3 : A.in1.in1.in1.handled = none := by simp [calm]
        have hneI : l ≠ (z.heap.push (freshSet w)).objs.size := by
          rw [hz1]; exact Nat.ne_of_lt (Nat.lt_succ_of_lt hlS)
        have hSf : z.heap.objs.size ∉ [(z.heap.push (freshSet w)).objs.size, l] := by
          rw [hz1]; simp only [List.mem_cons, List.mem_singleton, List.not_mem_nil, or_false, not_or]
          exact ⟨Nat.ne_of_lt (Nat.lt_succ_self _), Nat.ne_of_gt hlS⟩
        refine bag_loopS (ks := ks) (items := items) (Walks.list calm3 _ l hneI items) hits hn hSf few (items.size - 0) 0 _ rfl (Nat.zero_le _) ⟨⟨_, Heap.get?_push_size _ rfl, rfl, rfl⟩, hl1.push _⟩ (bag_fresh (Heap.get?_push_of_some _ g0)) fun m' tk hm bg => ?_
        show wpAny _ _ _ _ _ _
        refine wpAny_pure ?_
        show wpAny _ _ (ret Value.none) _ _ _
        refine wpAny_pure ⟨rfl, m', tk, rfl, bg, fun b o hb => ?_⟩
        have hlt : b < z.heap.objs.size := Heap.lt_size hb
        have hnb : b ∉ [(z.heap.push (freshSet w)).objs.size] := by
          rw [List.mem_singleton, hz1]
          exact Nat.ne_of_lt (Nat.lt_succ_of_lt hlt)
        exact hm b o (Nat.ne_of_lt hlt) hnb (Heap.get?_push_of_some _ (Heap.get?_push_of_some _ hb))
      · cases res2 with
        | error _ => exact hres2
        | ok fl2 =>
          cases fl2 with
          | ret r =>
            obtain ⟨rfl, m', tk, rfl, bg, km⟩ := hres2
            repeat (any_goals (first | assumption | wp_step))
            exact fin m' tk bg km
          | _ => exact hres2.elim
    | _ => exact hres.elim
end
def tUpsT (K : PySem.W.Frag) (ta : TE) : TE := fun σ H Q => ta σ H fun x H1 => ∃ (a : Addr) (ls : List Str), x = .ref a ∧ SqL K H1 a (ls.map V.str) ∧ ls.length < 60 ∧ ∀ (ys : List Str) (p : Addr), ys.Nodup → (∀ k, k ∈ ys ↔ k ∈ ls) → PyProof.Rows.sortedS ys = true → H1 p = none → Q (.ref p) (upd H1 p (.lst (ys.map V.str)))
theorem pe_upsT {X : Cx} {a : Expr} {ta : TE} {p p2 q pos : Pos} (hc : X.calm = true) (hg : Gl X "sorted") (hm : X.mg "sorted" = none) (hg2 : Gl X "set") (hm2 : X.mg "set" = none) (ha : PE X a ta)
    (na : starEach [a] X.env = (false, eval a X.env) :: starEach [] X.env := by rfl) : PE X (.Call (.Name "sorted" p) [.Call (.Name "set" p2) [a] [] q] [] pos) (tUpsT X.K ta) := by
  refine ⟨fun pins z σ H Q I h => ?_⟩
  refine PyProof.Rows.Call_ (ld_blt I hg hm PyProof.Rows.boot_sorted ?_)
  refine PyProof.Rows.callWith_builtin1 (PyProof.Rows.args_cons ?_ rfl) rfl rfl
  refine PyProof.Rows.Call_ (ld_blt I hg2 hm2 PyProof.Rows.boot_set ?_)
  refine PyProof.Rows.callWith_type1 (PyProof.Rows.args_cons (thn (ha.run pins z σ H _ I h) fun v z1 ⟨x, H1, I1, r1, q1⟩ => PyProof.Rows.args_nil ?_) na) na rfl
  obtain ⟨l, ls, rfl, hs, hl, fin⟩ := q1
  obtain ⟨its, rv, hli, _⟩ := I1.list hs
  obtain rfl : v = .ref l := r1
  have hits : ∀ (i : Nat) (v : Value), its.toArray[i]? = some v → ∃ k u, ls[i]? = some k ∧ v = Value.str k u := by
    have aux : ∀ {ls : List Str} {its : List Value}, Vals (ls.map V.str) its → ∀ (i : Nat) (v : Value), its[i]? = some v → ∃ k u, ls[i]? = some k ∧ v = Value.str k u := by
      intro ls
      induction ls with
      | nil => intro its r i v e; cases r; simp at e
      | cons k ls ih =>
        intro its r i v e
        cases r with
        | cons h t =>
          obtain ⟨u, hu⟩ := h
          cases i with
          | zero =>
            have e2 : _ = v := Option.some.inj e
            exact ⟨k, u, rfl, e2.symm.trans hu⟩
          | succ i => exact ih t i v (by simpa using e)
    intro i v e
    exact aux rv i v (by simpa using e)
  have hlen : its.toArray.size = ls.length := by
    rw [List.size_toArray, ← rv.length, List.length_map]
  refine call_set_txts (I1.ok.hd hc) hli.isList hits hlen (by unfold scanBound; omega) fun m' tk bg km => ?_
  have I2 : Inv X pins σ H1 { z1 with heap := m', toks := tk } := I1.kept km
  have gl := gatherS_len ls
  refine PyProof.Rows.args_nil (bag_sorted (z := { z1 with heap := m', toks := tk }) bg (I1.ok.hd hc) (by omega) fun z3 p out n ys k3 g3 o3 hp ho hs pm hss => ?_)
  obtain ⟨g1, g2⟩ := gatherS_spec ls
  have yl : ys.length ≤ ls.length := by rw [pm.length_eq]; exact gl
  have hn : H1 p = none := I2.hok.fresh hp
  have J : Inv X pins σ (upd H1 p (.lst (ys.map V.str))) z3 :=
    Inv.call' (ch := []) I2 o3 (Un.laid k3 hp hn) (I2.hok.laid k3 hp ⟨by rw [List.length_map, sizeLine_eq]; omega, out.toList, n, vals_of_strs hs, by rw [Array.toArray_toList]; exact ho⟩) (by rw [g3]; exact I2.bare) (fun _ y => nomatch y)
  exact ⟨.ref p, _, J, rfl, fin ys p (pm.nodup_iff.mpr g1) (fun k => by rw [pm.mem_iff, g2]) hss hn⟩
section
variable {ι : Type} {X : ι → Cx} {S : Sit} {sl sl1 : List Slot} {e : Expr} {pos p1 p2 p3 : Pos}
/-- sorted(set(list of texts)) -/
theorem x_upsT {ls ks : List Txt} (f : Fam X S) (h : E X e sl sl1 ls) (hn : ks.Nodup) (hk : ∀ t, t ∈ ks ↔ t ∈ ls) (hs : ks.Pairwise fun a b => ¬ b < a) (hl : ls.length < 60) (hg : ∀ i, Gl (X i) "sorted") (hm : S.mg "sorted" = none) (hg2 : ∀ i, Gl (X i) "set") (hm2 : S.mg "set" = none)
    (na : ∀ i, starEach [e] (X i).env = (false, eval e (X i).env) :: starEach [] (X i).env := by intro _; rfl) : EN X (.Call (.Name "sorted" p1) [.Call (.Name "set" p2) [e] [] p3] [] pos) sl sl1 (cl ks) := by
  obtain ⟨te, a1, a2⟩ := h
  refine ⟨tUpsT S.K te, fun i => ?_, a2.1, fun σ F H r Q q => a2.2 σ F H r _ fun v F1 H1 s1 r1 hv => ?_⟩
  · have y := pe_upsT (p := p1) (p2 := p2) (q := p3) (pos := pos) (f.calm i) (hg i) (by rw [f.mg i]; exact hm) (hg2 i) (by rw [f.mg i]; exact hm2) (a1 i) (na i)
    rw [f.K i] at y
    exact y
  · obtain ⟨a, ws, rfl, ha, hr⟩ := hv
    rw [Reps.flat] at hr
    subst hr
    refine ⟨a, ls.map tx, rfl, ?_, by rw [List.length_map]; exact hl, fun ys p yn ym ysr hp => new_end (sl := sl) q s1 r1 ⟨_, rfl, ?_⟩ p hp⟩
    · have e2 : (ls.map tx).map V.str = ls.map Flat.toV := by rw [List.map_map]; rfl
      rw [e2]
      exact SqL.of (r1.sub _ _ ha)
    · have pm : ys.Perm (ks.map tx) := (List.perm_ext_iff_of_nodup yn (List.pairwise_map.mpr (hn.imp fun h e => h (tx_inj e)))).mpr fun k => by
        rw [ym, List.mem_map, List.mem_map]
        exact ⟨fun ⟨t, h1, h2⟩ => ⟨t, (hk t).2 h1, h2⟩, fun ⟨t, h1, h2⟩ => ⟨t, (hk t).1 h1, h2⟩⟩
      have e3 : ys = ks.map tx := by
        refine List.Perm.eq_of_pairwise (le := fun a b : Str => ¬ b.cps.toList < a.cps.toList) (fun a b _ _ h1 h2 => ?_) ?_ ?_ pm
        · rw [List.not_lt] at h1 h2
          have := List.le_antisymm h1 h2
          cases a; cases b
          simpa using this
        · cases ys with
          | nil => exact List.Pairwise.nil
          | cons y ys => exact rising_pw ys y ysr
        · exact List.pairwise_map.mpr (hs.imp fun {a b} h => by rw [tx_cps, tx_cps]; exact h)
      rw [Reps.flat, e3, List.map_map]
      rfl
end
end Wk

/-! Wk47: tuples of texts: join, len, in; sorted of a slot's dict; how long repr is. -/
namespace Wk
open PySem L2
section
variable {ι : Type} {X : ι → Cx} {S : Sit} {sl sl1 sl2 : List Slot} {α : Type} [Rep α] {e e1 e2 : Expr} {pos p1 p2 apos : Pos} {x : Str}
/-- "".join(tuple) -/
theorem x_joinT {ys : List Txt} (f : Fam X S) (ho : E X e1 sl sl1 ([] : Txt)) (h : E X e sl1 sl2 (Tup.mk ys)) (hl : (ys.map List.length).sum ≤ 16777216) (hs : ∀ i, starEach [e] (X i).env = [(false, eval e (X i).env)] := by intro _; rfl)
    (hbase : ∀ i, attributeBase e1 "join" (X i).env (eval e1 (X i).env) = eval e1 (X i).env := by intro _; rfl) (hline : (apos.endLine == pos.line) = true := by rfl) : E X (.Call (.Attribute e1 "join" apos) [e] [] pos) sl sl2 (ys.flatten : Txt) := by
  obtain ⟨to, o1, o2⟩ := ho
  obtain ⟨te, a1, a2⟩ := h
  refine ⟨tM1 (fun x xs H Q => ∃ a p, ∃ ys : List Str, x = .str a ∧ xs = [.ref p] ∧ (SqL S.K H p (ys.map V.str) ∨ SqT S.K H p (ys.map V.str)) ∧ (ys.map (·.length)).sum + ys.length * a.length ≤ 16777216 ∧ Q (.str (PySem.Txt.join a ys)) H) to te, fun i => ?_, o2.1.trans a2.1, fun σ F H r Q q => ?_⟩
  · have z := pe_join (o1 i) (a1 i) (hs i) (hbase i) hline
    rw [f.K i] at z
    exact z
  · refine o2.2 σ F H r _ fun v F1 H1 s1 r1 hv => ⟨⟨_, hv⟩, a2.2 σ F1 H1 r1 _ fun w F2 H2 s2 r2 hw => ?_⟩
    obtain ⟨p, vs, rfl, hp, hr⟩ := hw
    rw [Reps.flat] at hr
    subst hr
    refine ⟨tx [], p, ys.map tx, hv, rfl, .inr ?_, ?_, ?_⟩
    · have e : (ys.map tx).map V.str = ys.map Flat.toV := by rw [List.map_map]; rfl
      rw [e]
      exact SqT.of (r2.sub _ _ hp)
    · have e : (ys.map tx).map (·.length) = ys.map List.length := by rw [List.map_map]; exact List.map_congr_left fun l _ => tx_len l
      rw [e, tx_len]
      simpa using hl
    · rw [txJoin_nil]
      exact q _ F2 H2 (s1.trans s2 fun p hp => .inl (by rw [owns_kd o2.1]; exact hp)) r2 rfl
/-- len of a tuple -/
theorem x_lenTp {xs : List α} (f : Fam X S) (h : E X e sl sl1 (Tup.mk xs)) (hg : ∀ i, Gl (X i) "len") (hm : S.mg "len" = none) (he : ∀ i, starEach (e :: []) (X i).env = (false, eval e (X i).env) :: starEach [] (X i).env := by intro _; rfl) : E X (.Call (.Name "len" p1) [e] [] pos) sl sl1 (xs.length : Int) :=
  x_callB f (len_seq f) (a_v h a_nil he) (fun σ F H H0 vs g hA Q q => by
    obtain ⟨v, rfl, p, ws, rfl, hp, hr⟩ := args1 hA
    exact ⟨p, ws, rfl, .inr (SqT.of (g.sub _ _ hp)), q _ (by rw [hr.len]; rfl)⟩) hg hm PySem.boot_len (he := he)
variable (f : Fam X S)
include f
/-- text in a tuple of texts -/
theorem t_notInTT {k : Txt} {ls : List Txt} (ha : E X e1 sl sl1 k) (hb : E X e2 sl1 sl2 (Tup.mk ls)) (hm : behindInMarks .NotIn e2 = false := by rfl) : T X (.Compare e1 [.NotIn] [e2] pos) sl sl2 (!decide (k ∈ ls)) :=
  t_cmp f (r := rIn S.K true) (fun i => by
    have y := op_notIn_seq (X := X i)
    rw [f.K i] at y
    exact y) ha hb hm fun F H x y sm hx ⟨p, vs, e, h1, h2⟩ Q q => by
    rw [Reps.flat] at h2
    subst h2
    cases hx
    refine ⟨p, _, e, .inr (SqT.of (sm _ _ h1)), rfl, ?_, ?_⟩
    · rw [List.all_eq_true]
      intro v hv
      obtain ⟨l, _, rfl⟩ := List.mem_map.mp hv
      rfl
    · have z : inV (Flat.toV k) (ls.map Flat.toV) = decide (k ∈ ls) := inV_txt
      rw [z]
      exact q
theorem t_inTT {k : Txt} {ls : List Txt} (ha : E X e1 sl sl1 k) (hb : E X e2 sl1 sl2 (Tup.mk ls)) (hm : behindInMarks .In e2 = false := by rfl) : T X (.Compare e1 [.In] [e2] pos) sl sl2 (decide (k ∈ ls)) :=
  t_cmp f (r := rIn S.K false) (fun i => by
    have y := op_in_seq (X := X i)
    rw [f.K i] at y
    exact y) ha hb hm fun F H x y sm hx ⟨p, vs, e, h1, h2⟩ Q q => by
    rw [Reps.flat] at h2
    subst h2
    cases hx
    refine ⟨p, _, e, .inr (SqT.of (sm _ _ h1)), rfl, ?_, ?_⟩
    · rw [List.all_eq_true]
      intro v hv
      obtain ⟨l, _, rfl⟩ := List.mem_map.mp hv
      rfl
    · have z : inV (Flat.toV k) (ls.map Flat.toV) = decide (k ∈ ls) := inV_txt
      rw [z]
      exact q
theorem x_inTT {k : Txt} {ls : List Txt} (ha : E X e1 sl sl1 k) (hb : E X e2 sl1 sl2 (Tup.mk ls)) (hm : behindInMarks .In e2 = false := by rfl) : E X (.Compare e1 [.In] [e2] pos) sl sl2 (decide (k ∈ ls)) :=
  x_cmp f (r := rIn S.K false) (fun i => by
    have y := op_in_seq (X := X i)
    rw [f.K i] at y
    exact y) ha hb hm fun F H x y sm hx ⟨p, vs, e, h1, h2⟩ Q q => by
    rw [Reps.flat] at h2
    subst h2
    cases hx
    refine ⟨p, _, e, .inr (SqT.of (sm _ _ h1)), rfl, ?_, ?_⟩
    · rw [List.all_eq_true]
      intro v hv
      obtain ⟨l, _, rfl⟩ := List.mem_map.mp hv
      rfl
    · have z : inV (Flat.toV k) (ls.map Flat.toV) = decide (k ∈ ls) := inV_txt
      rw [z]
      exact q
/-- sorted(a slot's dict), the keys being texts -/
theorem x_sortedDS {kvs : List (Key × V)} {ks : List Txt} (j : Nat) (hN : S.N[j]? = some x) (hv : ∀ i, Vis (X i).env.scope x) (hj : Holds sl j (cdk kvs)) (hk : (ks.map fun t => (Sum.inr (tx t) : Key)).Perm (kvs.map (·.1))) (hs : ks.Pairwise fun a b => ¬ b < a) (few : ks.length < 64) (hg : ∀ i, Gl (X i) "sorted") (hm : S.mg "sorted" = none)
    (hd : (x == ("__debug__" : Str)) = false := by decide) (hcd : (x == ("__classdict__" : Str)) = false := by decide) : EN X (.Call (.Name "sorted" p1) [.Name x p2] [] pos) sl sl (cl ks) :=
  x_callBN f (fun i => call_sortedD (f.calm i)) (a_s f j hN hv hj a_nil hd hcd (fun _ => rfl)) (fun σ F H H0 vs g hA Q q => by
    obtain ⟨v, rfl, hv⟩ := argsS hA
    obtain ⟨p, e, ho⟩ := dict_read g hj
    rw [hv] at e
    have ev : v = .ref p := by simpa using e
    subst ev
    have key : ∀ L : List Key, (∀ k ∈ L, ∃ t : Txt, k = Sum.inr (tx t)) → ∃ ls : List Txt, L = (ls.map tx).map Sum.inr := by
      intro L hall
      induction L with
      | nil => exact ⟨[], rfl⟩
      | cons k L ih =>
        obtain ⟨y, rfl⟩ := hall k (by simp)
        obtain ⟨ys, e⟩ := ih fun k h => hall k (List.mem_cons_of_mem _ h)
        exact ⟨y :: ys, by rw [e]; rfl⟩
    obtain ⟨ls, el⟩ := key (kvs.map (·.1)) fun k hkk => by
      obtain ⟨t, _, rfl⟩ := List.mem_map.mp (hk.mem_iff.mpr hkk)
      exact ⟨t, rfl⟩
    have pl : ks.Perm ls := by
      have y := hk.map fun k : Key => match k with
        | .inr s => s.cps.toList
        | .inl _ => []
      have ex : ∀ us : List Txt, (us.map tx).map (fun s : Str => s.cps.toList) = us := fun us => by
        rw [List.map_map]
        exact (List.map_congr_left fun t _ => by show (tx t).cps.toList = id t; rw [tx_cps]; rfl).trans (List.map_id _)
      rw [el, List.map_map, List.map_map] at y
      have y2 : ((ks.map tx).map fun s : Str => s.cps.toList).Perm ((ls.map tx).map fun s : Str => s.cps.toList) := by
        rw [List.map_map]
        exact y
      rw [ex, ex] at y2
      exact y2
    refine ⟨p, kvs, ls.map tx, rfl, .inl ho, el, by rw [List.length_map]; have := pl.length_eq; omega, fun ys p2 pm so h2 => ?_⟩
    have e3 : ys = ks.map tx := by
      refine List.Perm.eq_of_pairwise (le := fun a b : Str => ¬ b.cps.toList < a.cps.toList) (fun a b _ _ h1 h2 => ?_) ?_ ?_ (pm.trans (pl.map tx).symm)
      · rw [List.not_lt] at h1 h2
        have := List.le_antisymm h1 h2
        cases a; cases b
        simpa using this
      · cases ys with
        | nil => exact List.Pairwise.nil
        | cons y ys => exact rising_pw ys y so
      · exact List.pairwise_map.mpr (hs.imp fun {a b} h => by rw [tx_cps, tx_cps]; exact h)
    refine q _ ⟨_, rfl, ?_⟩ p2 h2
    rw [Reps.flat, e3, List.map_map]
    rfl) hg hm PyProof.Rows.boot_sorted (he := fun _ => rfl)
end
/-! ### how long repr is -/
theorem textFrom_le : ∀ (ts : List Str) (k : Nat) (acc : Str), (textFrom k acc ts).length ≤ acc.length + piled ts
  | [], k, acc => by show acc.length ≤ acc.length + _; omega
  | t :: r, k, acc => by
    have h1 := textFrom_le r (k + 1) (acc ++ (if k > 0 then ", " else "" : String) ++ t)
    have e : (acc ++ (if k > 0 then ", " else "" : String) ++ t).length = acc.length + (if k > 0 then 2 else 0) + t.length := by
      rw [strLen_append, strLen_append]
      split <;> rfl
    rw [e] at h1
    show (textFrom (k + 1) _ r).length ≤ _
    rw [piled_cons]
    have d1 : (if k > 0 then 2 else 0 : Nat) ≤ 2 := by split <;> omega
    omega
theorem listText_le (ts : List Str) : (listText ts).length ≤ piled ts + 2 := by
  unfold listText
  rw [strLen_append]
  have y := textFrom_le ts 0 "["
  have e1 : ((("[" : String) : Str)).length = 1 := rfl
  have e2 : ((("]" : String) : Str)).length = 1 := rfl
  omega
theorem tupleText_le (ts : List Str) : (tupleText ts).length ≤ piled ts + 3 := by
  unfold tupleText
  rw [strLen_append, strLen_append]
  have e1 : ((("(" : String) : Str)).length = 1 := rfl
  have e3 : (((if ts.length == 1 then ",)" else ")" : String) : Str)).length ≤ 2 := by split <;> decide
  by_cases h : ts = []
  · subst h
    have : (Str.join ", " []).length = 0 := rfl
    omega
  · have := join_length_add ts h
    omega
/-- told with so many signs at most -/
structure TB [Rep α] [Dta α] (d n : Nat) (a : α) : Prop where
  show1 : (Dta.pd a).showable = true
  nod : (Dta.pd a).hasDict = false
  dep : (Dta.pd a).depth ≤ d
  short : (Dta.pd a).shown.length ≤ n
section
variable {α β : Type} [Rep α] [Rep β]
theorem TB.told [Dta α] {d n : Nat} {a : α} (h : TB d n a) (hd : d ≤ 64) (hn : n ≤ 16777216) : Told a := ⟨h.show1, h.nod, Nat.le_trans h.dep hd, Nat.le_trans h.short hn⟩
theorem TB.up [Dta α] {d n m : Nat} {a : α} (h : TB d n a) (hn : n ≤ m) : TB d m a := ⟨h.show1, h.nod, h.dep, Nat.le_trans h.short hn⟩
theorem tb_txt {l : Txt} {m : Nat} (h : ∀ c ∈ l, c < 1000) (hl : l.length ≤ m) : TB 0 (10 * m + 2) l := by
  refine ⟨rfl, rfl, Nat.le_refl 0, ?_⟩
  have y := StrLaws.reprText_len (tx l) fun c hc => by
    rw [tx_cps] at hc
    have := h c hc
    exact Nat.lt_of_lt_of_le this (by decide)
  rw [tx_len] at y
  show (reprText (tx l)).length ≤ _
  omega
theorem tb_bool (b : Bool) : TB 0 5 b := ⟨rfl, rfl, Nat.le_refl 0, by cases b <;> decide⟩
theorem tb_unit : TB 0 4 () := ⟨rfl, rfl, Nat.le_refl 0, by decide⟩
theorem tb_int {i : Int} (h : i.natAbs.log2 < 1920) : TB 0 1921 i := by
  refine ⟨decide_eq_true h, rfl, Nat.le_refl 0, ?_⟩
  exact PyProof.Rows.int_text_len_1921 h
theorem tb_all [Dta α] {d n : Nat} : ∀ {as : List α}, (∀ a ∈ as, TB d n a) → PyData.showableAll (as.map Dta.pd) = true ∧ PyData.hasDictAll (as.map Dta.pd) = false ∧ PyData.depthAll (as.map Dta.pd) ≤ d ∧ piled (PyData.shownAll (as.map Dta.pd)) ≤ as.length * (n + 2)
  | [], _ => ⟨rfl, rfl, Nat.zero_le _, Nat.zero_le _⟩
  | a :: as, h => by
    obtain ⟨i1, i2, i3, i4⟩ := tb_all (as := as) fun b hb => h b (List.mem_cons_of_mem _ hb)
    have ha := h a (List.mem_cons_self ..)
    refine ⟨?_, ?_, ?_, ?_⟩
    · show ((Dta.pd a).showable && PyData.showableAll (as.map Dta.pd)) = true
      rw [ha.show1, i1]
      rfl
    · show ((Dta.pd a).hasDict || PyData.hasDictAll (as.map Dta.pd)) = false
      rw [ha.nod, i2]
      rfl
    · exact Nat.max_le.mpr ⟨ha.dep, i3⟩
    · show piled ((Dta.pd a).shown :: PyData.shownAll (as.map Dta.pd)) ≤ (as.length + 1) * (n + 2)
      rw [piled_cons, Nat.add_mul]
      have := ha.short
      omega
theorem tb_list [Dta α] {d n m : Nat} {as : List α} (h : ∀ a ∈ as, TB d n a) (hl : as.length ≤ m) : TB (d + 1) (m * (n + 2) + 3) as := by
  obtain ⟨i1, i2, i3, i4⟩ := tb_all h
  have hm := Nat.mul_le_mul_right (n + 2) hl
  refine ⟨i1, i2, Nat.succ_le_succ i3, ?_⟩
  have y := listText_le (PyData.shownAll (as.map Dta.pd))
  have e : (Dta.pd as).shown = listText (PyData.shownAll (as.map Dta.pd)) := rfl
  rw [e]
  omega
theorem tb_tup [Dta α] {d n m : Nat} {as : Tup α} (h : ∀ a ∈ as.xs, TB d n a) (hl : as.xs.length ≤ m) : TB (d + 1) (m * (n + 2) + 3) as := by
  obtain ⟨i1, i2, i3, i4⟩ := tb_all h
  have hm := Nat.mul_le_mul_right (n + 2) hl
  refine ⟨i1, i2, Nat.succ_le_succ i3, ?_⟩
  have y := tupleText_le (PyData.shownAll (as.xs.map Dta.pd))
  have e : (Dta.pd as).shown = tupleText (PyData.shownAll (as.xs.map Dta.pd)) := rfl
  rw [e]
  omega
theorem low_small {l : Txt} (h : Low l) : ∀ c ∈ l, c < 1000 := fun c hc => by
  have y := List.all_eq_true.mp h c hc
  simp at y
  omega
end
end Wk

namespace Law
open PySem L2 Wk
abbrev topS (i : Nat) : Stmt := PySem.Challenge.pw_crosslines_k10_whole_bunches.main.body.getD i (.Pass ⟨0, 0, 0, 0⟩)
structure Jar where
  (h s n : Int)
def Jar.l (j : Jar) : List Int := [j.h, j.s, j.n]
def dipS (j : Jar) : Int := (j.s * 48271 + 7001 * (j.n + 1) + 29) % 2147483563
def dipV (j : Jar) (m : Int) : Int := if 0 < j.h then j.h % m else (dipS j / 512) % m
def dipJ (j : Jar) (m : Int) : Jar := if 0 < j.h then ⟨j.h / m, j.s, j.n + 1⟩ else ⟨j.h, dipS j, j.n + 1⟩
abbrev sDip : Stmt := topS 30
def prDip : Pr := { A := Addr × Jar × Int, ins := fun a => [.par a.1 (cl a.2.1.l), vl a.2.2], pre := fun a => 0 < a.2.2 ∧ a.2.2 < 1073741824, res := fun a => rv (dipV a.2.1 a.2.2), outs := fun a => [(a.1, cl (dipJ a.2.1 a.2.2).l)] }
theorem scDip : FnScope ["jar", "many", "figure"] ["jar", "many"] (defScope sDip) := ⟨rfl, rfl, rfl, by decide +kernel, rfl, by decide +kernel, by decide +kernel⟩
theorem ok_dip {P : Program} {w : World} {K : PySem.W.Frag} {mg : Str → Option Value} {base : Heap} {f : Addr} {fd : FuncData} (F : Fun K "_law_dip" "_law_dip" sDip f fd) (m1 : mg "divmod" = none) (m2 : mg "int" = none) : FnG P w K mg base CX0 1 f fd ["jar", "many"] prDip.sp := by
  refine fn_ok F scDip (fun _ => rfl) (fun _ => rfl) fun cdv A outer s0 H Ee fm a hpre => ?_
  obtain ⟨p, ⟨h, s, n⟩, m⟩ := a
  obtain ⟨hm0, hm1⟩ := hpre
  by_cases hh : 0 < h
  · refine ⟨[.par p (cl [h / m, s, n + 1]), vl m, vl (h % m)], ?_, ?_⟩
    · intro pc hpc
      refine ⟨0, ?_⟩
      rw [List.mem_singleton.mp hpc]
      show some _ = some _
      unfold dipJ
      rw [if_pos hh]
      rfl
    have e : prDip.res (p, ⟨h, s, n⟩, m) = rv (h % m) := by
      show rv (dipV _ _) = _
      unfold dipV
      rw [if_pos hh]
    rw [e]
    refine .ret ?_
    refine g_cons (g1_setO (xs := [h, s, n]) (i := 2) (n := 2) (a := n + 1) fm 0 rfl (fun _ => .inl rfl) (x_add fm (x_ixO (xs := [h, s, n]) (i := 2) (a := n) fm 0 rfl (fun _ => .inl rfl) (x_int fm) (.inr ⟨p, rfl⟩) (.inr ⟨p, _, rfl⟩) rfl) (x_int fm)) (x_int fm) (.inr ⟨p, rfl⟩) rfl) ?_
    refine g_yes (T.is ((t_gt fm (x_ixO (xs := [h, s, n + 1]) (i := 0) (a := h) fm 0 rfl (fun _ => .inl rfl) (x_int fm) (.inr ⟨p, rfl⟩) (.inr ⟨p, _, rfl⟩) rfl) (x_int fm))) (decide_eq_true hh)) ?_
    refine g_cons (g1_divS (xs := [h, s, n + 1]) (i := 0) (n := 0) (k := h) (d := m) fm 0 2 rfl rfl (fun _ => .inl rfl) (fun _ => .inl rfl) (fun _ => .inr rfl) (a_v (x_ixO (xs := [h, s, n + 1]) (i := 0) (a := h) fm 0 rfl (fun _ => .inl rfl) (x_int fm) (.inr ⟨p, rfl⟩) (.inr ⟨p, _, rfl⟩) rfl) (a_v (x_var fm 1 rfl (fun _ => .inl rfl) rfl) a_nil)) (x_int fm) (.inr ⟨p, rfl⟩) rfl (by decide) ⟨hm0, hm1⟩ ⟨_, rfl, trivial⟩ (fun _ => rfl) m1) ?_
    exact g_end (g1_ret (x_var fm 2 rfl (fun _ => .inl rfl) rfl))
  · refine ⟨[.par p (cl [h, dipS ⟨h, s, n⟩, n + 1]), vl m, .no], ?_, ?_⟩
    · intro pc hpc
      refine ⟨0, ?_⟩
      rw [List.mem_singleton.mp hpc]
      show some _ = some _
      unfold dipJ
      rw [if_neg hh]
      rfl
    have e : prDip.res (p, ⟨h, s, n⟩, m) = rv (dipS ⟨h, s, n⟩ / 512 % m) := by
      show rv (dipV _ _) = _
      unfold dipV
      rw [if_neg hh]
    rw [e]
    refine .ret ?_
    refine g_cons (g1_setO (xs := [h, s, n]) (i := 2) (n := 2) (a := n + 1) fm 0 rfl (fun _ => .inl rfl) (x_add fm (x_ixO (xs := [h, s, n]) (i := 2) (a := n) fm 0 rfl (fun _ => .inl rfl) (x_int fm) (.inr ⟨p, rfl⟩) (.inr ⟨p, _, rfl⟩) rfl) (x_int fm)) (x_int fm) (.inr ⟨p, rfl⟩) rfl) ?_
    refine g_no (T.is ((t_gt fm (x_ixO (xs := [h, s, n + 1]) (i := 0) (a := h) fm 0 rfl (fun _ => .inl rfl) (x_int fm) (.inr ⟨p, rfl⟩) (.inr ⟨p, _, rfl⟩) rfl) (x_int fm))) (decide_eq_false hh)) ?_
    refine g_cons (g1_setO (xs := [h, s, n + 1]) (i := 1) (n := 1) (a := dipS ⟨h, s, n⟩) fm 0 rfl (fun _ => .inl rfl)
      (x_mod fm (x_int1 fm (x_add fm (x_add fm (x_mul fm (x_ixO (xs := [h, s, n + 1]) (i := 1) (a := s) fm 0 rfl (fun _ => .inl rfl) (x_int fm) (.inr ⟨p, rfl⟩) (.inr ⟨p, _, rfl⟩) rfl) (x_int fm) (.inr (by decide))) (x_mul fm (x_int fm) (x_ixO (xs := [h, s, n + 1]) (i := 2) (a := n + 1) fm 0 rfl (fun _ => .inl rfl) (x_int fm) (.inr ⟨p, rfl⟩) (.inr ⟨p, _, rfl⟩) rfl) (.inl (by decide)))) (x_int fm)) (fun _ => rfl) m2) (x_int fm) (by decide)) (x_int fm) (.inr ⟨p, rfl⟩) rfl) ?_
    exact g_end (g1_ret (x_mod fm (x_int1 fm (x_fdiv fm (x_ixO (xs := [h, dipS ⟨h, s, n⟩, n + 1]) (i := 1) (a := dipS ⟨h, s, n⟩) fm 0 rfl (fun _ => .inl rfl) (x_int fm) (.inr ⟨p, rfl⟩) (.inr ⟨p, _, rfl⟩) rfl) (x_int fm) ⟨by decide, by decide⟩) (fun _ => rfl) m2) (x_var fm 1 rfl (fun _ => .inl rfl) rfl) hm0))
end Law

namespace Law
open PySem L2 Wk
/-! ### _law_mixed -/
abbrev sMix : Stmt := topS 32
def mixStep {α : Type} (t : Jar × List α × List α) : Jar × List α × List α := (dipJ t.1 t.2.1.length, t.2.1.eraseIdx (dipV t.1 t.2.1.length).toNat, t.2.2 ++ (t.2.1[(dipV t.1 t.2.1.length).toNat]?).toList)
def mixN {α : Type} : Nat → Jar × List α × List α → Jar × List α × List α
  | 0, t => t
  | n + 1, t => mixN n (mixStep t)
def mixJ {α : Type} (j : Jar) (l : List α) : Jar := (mixN l.length (j, l, [])).1
def mixV {α : Type} (j : Jar) (l : List α) : List α := (mixN l.length (j, l, [])).2.2
theorem dipV_lt (j : Jar) {m : Int} (h : 0 < m) : 0 ≤ dipV j m ∧ dipV j m < m := by
  unfold dipV
  split
  · exact ⟨Int.emod_nonneg _ (by omega), Int.emod_lt_of_pos _ h⟩
  · exact ⟨Int.emod_nonneg _ (by omega), Int.emod_lt_of_pos _ h⟩
theorem mix_fold {α β : Type} : ∀ (xs : List β) (t : Jar × List α × List α), xs.foldl (fun t (_ : β) => mixStep t) t = mixN xs.length t
  | [], _ => rfl
  | _ :: xs, t => mix_fold xs (mixStep t)
theorem mixStep_len {α : Type} (t : Jar × List α × List α) (h : 0 < t.2.1.length) : ∃ a, t.2.1[(dipV t.1 t.2.1.length).toNat]? = some a ∧ (mixStep t).2.1.length + 1 = t.2.1.length ∧ (mixStep t).2.2 = t.2.2 ++ [a] := by
  obtain ⟨h1, h2⟩ := dipV_lt t.1 (m := t.2.1.length) (by omega)
  have h3 : (dipV t.1 t.2.1.length).toNat < t.2.1.length := by omega
  refine ⟨t.2.1[(dipV t.1 t.2.1.length).toNat], List.getElem?_eq_getElem h3, ?_, ?_⟩
  · show (t.2.1.eraseIdx _).length + 1 = _
    rw [List.length_eraseIdx, if_pos h3]
    omega
  · show t.2.2 ++ (t.2.1[(dipV t.1 t.2.1.length).toNat]?).toList = _
    rw [List.getElem?_eq_getElem h3]
    rfl
/-- over a menu of any kind, laid as a list: its items -/
def prMix {α β : Type} [Rep α] [Rep β] (items : β → List α) : Pr := { A := Addr × Jar × β, ins := fun a => [.par a.1 (cl a.2.1.l), vl a.2.2], pre := fun a => (items a.2.2).length < 1000, res := fun a => rn (mixV a.2.1 (items a.2.2)), outs := fun a => [(a.1, cl (mixJ a.2.1 (items a.2.2)).l)] }
theorem scMix : FnScope ["jar", "menu", "left", "found", "each"] ["jar", "menu"] (defScope sMix) := ⟨rfl, rfl, rfl, by decide +kernel, rfl, by decide +kernel, by decide +kernel⟩
def sing (l : Txt) : List Txt := l.map fun c => ([c] : Txt)
theorem ok_mixT {P : Program} {w : World} {K : PySem.W.Frag} {mg : Str → Option Value} {base : Heap} {f : Addr} {fd : FuncData} (F : Fun K "_law_mixed" "_law_mixed" sMix f fd) (Fd : Fnc P w K mg base 1 "_law_dip" ["jar", "many"] prDip) (m1 : mg "list" = none) (m2 : mg "len" = none) : FnG P w K mg base CX0 2 f fd ["jar", "menu"] (prMix sing).sp := by
  refine fn_ok F scMix (fun _ => rfl) (fun _ => rfl) fun cdv A outer s0 H Ee fm a hpre => ?_
  obtain ⟨p, j, l⟩ := a
  have hlen : (sing l).length < 1000 := hpre
  have hl : l.length < 1000 := by simpa [sing] using hlen
  let St : Jar × List Txt × List Txt → List Wk.Slot := fun t => [.par p (cl t.1.l), vl l, .own (cl t.2.1), .own (cl t.2.2), .no]
  refine ⟨[.par p (cl (mixJ j (sing l)).l), vl l, .own (cl (mixN (sing l).length (j, sing l, [])).2.1), .no, .no], ?_, .new ?_⟩
  · intro pc hpc
    rw [List.mem_singleton.mp hpc]
    exact ⟨0, rfl⟩
  refine g_cons (g1_par2 fm 2 3 (x_listS fm (x_var fm 1 rfl (fun _ => .inl rfl) rfl) (by show l.length ≤ _; omega) (fun _ => rfl) m1) (x_list (xs := ([] : List Txt)) a_nil (by decide)) rfl rfl (by decide) (fun _ => rfl) (fun _ => rfl)) ?_
  refine g_cons (g1_forN fm St (j, sing l, []) (mixN (sing l).length (j, sing l, [])) (fun x t => (St t).set 4 (vl x)) (fun t (_ : Txt) => mixStep t) (fun i t => t.2.1.length + i = l.length ∧ t.2.2.length = i) (src_txt (x_var fm 1 rfl (fun _ => .inl rfl) rfl)) (Wks.refl _) ⟨by simp [sing], rfl⟩ (mix_fold _ _) (fun x t => tg_name fm 4 rfl (fun _ => .inl rfl) (fun _ => .inr rfl)) (fun i t x hx inv => ?_))
    (g_end (g1_retO fm 3 rfl (fun _ => .inl rfl) rfl))
  obtain ⟨h1, h2⟩ := inv
  have hi : i < l.length := by
    have := (List.getElem?_eq_some_iff.mp hx).1
    simpa using this
  have hp : 0 < t.2.1.length := by omega
  obtain ⟨a, ea, e1, e2⟩ := mixStep_len t hp
  obtain ⟨d1, d2⟩ := dipV_lt t.1 (m := t.2.1.length) (by omega)
  obtain ⟨j', left, found⟩ := t
  dsimp only at h1 h2 hp ea e1 e2 d1 d2
  refine ⟨⟨_, .inl (g_one (g1_expr (x_app (xs0 := found) (xs := found) (a := a) fm 3 rfl (fun _ => .inl rfl) (x_popAt (xs0 := left) (xs := left) (k := dipV j' left.length) (n := (dipV j' left.length).toNat) fm 2 rfl (fun _ => .inl rfl)
    (x_call1 (c' := cl (dipJ j' left.length).l) fm Fd (fun q => (q, j', (left.length : Int))) (a_s fm 0 rfl (fun _ => .inl rfl) (.inr ⟨p, rfl⟩) (a_v (x_lenO (xs := left) fm 2 rfl (fun _ => .inl rfl) (.inl rfl) (fun _ => rfl) m2) a_nil)) (fun _ => ⟨?_, ?_⟩) rfl (.inr ⟨p, rfl⟩) (fun _ => ⟨⟨rfl, rfl, rfl⟩, rfl, trivial⟩) (fun _ => rfl) (fun _ => rfl) (Nat.le_refl 1) (fun _ => rfl))
    (.inl rfl) (.inl rfl) ?_ ?_ ea) (.inl rfl) (.inl rfl) ?_))), ?_⟩, ?_, ?_⟩
  · show (0 : Int) < left.length
    omega
  · show (left.length : Int) < 1073741824
    omega
  · exact ⟨by omega, by omega⟩
  · exact seqIndex_of d1 d2
  · omega
  · refine ⟨.inl rfl, .inl rfl, .inl rfl, .inl ?_, .inr rfl, trivial⟩
    show Wk.Slot.own (cl (mixStep (j', left, found)).2.2) = _
    rw [e2]
    rfl
  · show (mixStep (j', left, found)).2.1.length + (i + 1) = l.length
    omega
  · show (mixStep (j', left, found)).2.2.length = i + 1
    rw [e2, List.length_append, List.length_singleton]
    omega
theorem ok_mixL {P : Program} {w : World} {K : PySem.W.Frag} {mg : Str → Option Value} {base : Heap} {f : Addr} {fd : FuncData} (F : Fun K "_law_mixed" "_law_mixed" sMix f fd) (Fd : Fnc P w K mg base 1 "_law_dip" ["jar", "many"] prDip) (m1 : mg "list" = none) (m2 : mg "len" = none) : FnG P w K mg base CX0 2 f fd ["jar", "menu"] (prMix (α := Int) (β := List Int) id).sp := by
  refine fn_ok F scMix (fun _ => rfl) (fun _ => rfl) fun cdv A outer s0 H Ee fm a hpre => ?_
  obtain ⟨p, j, l⟩ := a
  have hlen : l.length < 1000 := hpre
  have hl : l.length < 1000 := hlen
  let St : Jar × List Int × List Int → List Wk.Slot := fun t => [.par p (cl t.1.l), vl l, .own (cl t.2.1), .own (cl t.2.2), .no]
  refine ⟨[.par p (cl (mixJ j (l)).l), vl l, .own (cl (mixN l.length (j, l, [])).2.1), .no, .no], ?_, .new ?_⟩
  · intro pc hpc
    rw [List.mem_singleton.mp hpc]
    exact ⟨0, rfl⟩
  refine g_cons (g1_par2 fm 2 3 (x_listL fm (x_var fm 1 rfl (fun _ => .inl rfl) rfl) (fun _ => rfl) m1) (x_list (xs := ([] : List Int)) a_nil (by decide)) rfl rfl (by decide) (fun _ => rfl) (fun _ => rfl)) ?_
  refine g_cons (g1_forN fm St (j, l, []) (mixN l.length (j, l, [])) (fun x t => (St t).set 4 (vl x)) (fun t (_ : Int) => mixStep t) (fun i t => t.2.1.length + i = l.length ∧ t.2.2.length = i) (src_list fm (x_var fm 1 rfl (fun _ => .inl rfl) rfl)) (Wks.refl _) ⟨by simp, rfl⟩ (mix_fold _ _) (fun x t => tg_name fm 4 rfl (fun _ => .inl rfl) (fun _ => .inr rfl)) (fun i t x hx inv => ?_))
    (g_end (g1_retO fm 3 rfl (fun _ => .inl rfl) rfl))
  obtain ⟨h1, h2⟩ := inv
  have hi : i < l.length := by
    exact (List.getElem?_eq_some_iff.mp hx).1
  have hp : 0 < t.2.1.length := by omega
  obtain ⟨a, ea, e1, e2⟩ := mixStep_len t hp
  obtain ⟨d1, d2⟩ := dipV_lt t.1 (m := t.2.1.length) (by omega)
  obtain ⟨j', left, found⟩ := t
  dsimp only at h1 h2 hp ea e1 e2 d1 d2
  refine ⟨⟨_, .inl (g_one (g1_expr (x_app (xs0 := found) (xs := found) (a := a) fm 3 rfl (fun _ => .inl rfl) (x_popAt (xs0 := left) (xs := left) (k := dipV j' left.length) (n := (dipV j' left.length).toNat) fm 2 rfl (fun _ => .inl rfl)
    (x_call1 (c' := cl (dipJ j' left.length).l) fm Fd (fun q => (q, j', (left.length : Int))) (a_s fm 0 rfl (fun _ => .inl rfl) (.inr ⟨p, rfl⟩) (a_v (x_lenO (xs := left) fm 2 rfl (fun _ => .inl rfl) (.inl rfl) (fun _ => rfl) m2) a_nil)) (fun _ => ⟨?_, ?_⟩) rfl (.inr ⟨p, rfl⟩) (fun _ => ⟨⟨rfl, rfl, rfl⟩, rfl, trivial⟩) (fun _ => rfl) (fun _ => rfl) (Nat.le_refl 1) (fun _ => rfl))
    (.inl rfl) (.inl rfl) ?_ ?_ ea) (.inl rfl) (.inl rfl) ?_))), ?_⟩, ?_, ?_⟩
  · show (0 : Int) < left.length
    omega
  · show (left.length : Int) < 1073741824
    omega
  · exact ⟨by omega, by omega⟩
  · exact seqIndex_of d1 d2
  · omega
  · refine ⟨.inl rfl, .inl rfl, .inl rfl, .inl ?_, .inr rfl, trivial⟩
    show Wk.Slot.own (cl (mixStep (j', left, found)).2.2) = _
    rw [e2]
    rfl
  · show (mixStep (j', left, found)).2.1.length + (i + 1) = l.length
    omega
  · show (mixStep (j', left, found)).2.2.length = i + 1
    rw [e2, List.length_append, List.length_singleton]
    omega
end Law

namespace Law
open PySem L2 Wk
/-! ### _law_any_row -/
abbrev sRow : Stmt := topS 33
abbrev abc : Txt := [97, 98, 99, 100, 101, 102, 103, 104, 105, 106]
/-- put a sign at the last spot -/
def rowPut (c : Txt) (t : List Int × List Txt) : List Int × List Txt := (t.1.dropLast, t.2.set (t.1.getLastD 0).toNat c)
def rowStep (t : List Int × List Txt) (c : Txt) : List Int × List Txt := rowPut c (rowPut c t)
def rowJ0 (j : Jar) (m : Int) : Jar := mixJ j ((List.range (2 * m).toNat).map fun k : Nat => (k : Int))
def rowSpots (j : Jar) (m : Int) : List Int := mixV j ((List.range (2 * m).toNat).map fun k : Nat => (k : Int))
def rowLets (j : Jar) (m : Int) : List Txt := cutL (mixV (rowJ0 j m) (sing abc)) none (some m)
def rowJ (j : Jar) (m : Int) : Jar := mixJ (rowJ0 j m) (sing abc)
def rowV (j : Jar) (m : Int) : Txt := ((rowLets j m).foldl rowStep (rowSpots j m, (List.replicate (2 * m).toNat [([] : Txt)]).flatten)).2.flatten
def prRow : Pr := { A := Addr × Jar × Int, ins := fun a => [.par a.1 (cl a.2.1.l), vl a.2.2], pre := fun a => 1 ≤ a.2.2 ∧ a.2.2 ≤ 10, res := fun a => rv (rowV a.2.1 a.2.2), outs := fun a => [(a.1, cl (rowJ a.2.1 a.2.2).l)] }
theorem scRow : FnScope ["jar", "many", "spots", "found", "letter", "turn"] ["jar", "many"] (defScope sRow) := ⟨rfl, rfl, rfl, by decide +kernel, rfl, by decide +kernel, by decide +kernel⟩
/-- mixed is a shuffle -/
theorem mixN_perm {α : Type} : ∀ (n : Nat) (t : Jar × List α × List α), t.2.1.length = n → (mixN n t).2.2.Perm (t.2.2 ++ t.2.1)
  | 0, t, h => by
    have : t.2.1 = [] := List.eq_nil_of_length_eq_zero h
    show t.2.2.Perm _
    rw [this, List.append_nil]
  | n + 1, t, h => by
    obtain ⟨a, ea, e1, e2⟩ := mixStep_len t (by omega)
    have ih := mixN_perm n (mixStep t) (by omega)
    refine ih.trans ?_
    rw [e2, List.append_assoc]
    refine List.Perm.append_left _ ?_
    show ([a] ++ t.2.1.eraseIdx (dipV t.1 t.2.1.length).toNat).Perm t.2.1
    exact L2.erase_perm _ _ _ ea
theorem mixV_perm {α : Type} (j : Jar) (l : List α) : (mixV j l).Perm l := by
  have := mixN_perm l.length (j, l, []) rfl
  simpa [mixV] using this

theorem foldl_const2 {α τ : Type} (f : τ → τ) (t : τ) (a b : α) : [a, b].foldl (fun t _ => f t) t = f (f t) := rfl
structure RowInv (m : Int) (n : Nat) (t : List Int × List Txt) : Prop where
  sp : t.1.length = n
  fl : t.2.length = (2 * m).toNat
  inn : ∀ v ∈ t.1, 0 ≤ v ∧ v < 2 * m
  one : ∀ s ∈ t.2, s.length ≤ 1
theorem getLastD_mem {l : List Int} (h : l ≠ []) : l.getLastD 0 ∈ l ∧ l[l.length - 1]? = some (l.getLastD 0) := by
  have e : l.getLastD 0 = l.getLast h := by
    cases l with
    | nil => exact absurd rfl h
    | cons x xs => simp [List.getLastD, List.getLast_cons]
  rw [e]
  refine ⟨List.getLast_mem h, ?_⟩
  rw [List.getLast_eq_getElem]
  exact List.getElem?_eq_getElem _
theorem RowInv.put {m : Int} {n : Nat} {t : List Int × List Txt} {c : Txt} (h : RowInv m (n + 1) t) (hc : c.length ≤ 1) : RowInv m n (rowPut c t) where
  sp := by
    show t.1.dropLast.length = n
    rw [List.length_dropLast, h.sp]
    rfl
  fl := by
    show (t.2.set _ c).length = _
    rw [List.length_set, h.fl]
  inn := fun v hv => h.inn v (List.dropLast_subset _ hv)
  one := fun s hs => by
    rcases List.mem_or_eq_of_mem_set hs with z | z
    · exact h.one s z
    · rw [z]; exact hc
theorem ok_row {P : Program} {w : World} {K : PySem.W.Frag} {mg : Str → Option Value} {base : Heap} {f : Addr} {fd : FuncData} (F : Fun K "_law_any_row" "_law_any_row" sRow f fd) (Ft : Fnc P w K mg base 2 "_law_mixed" ["jar", "menu"] (prMix sing)) (Fl : Fnc P w K mg base 2 "_law_mixed" ["jar", "menu"] (prMix (α := Int) (β := List Int) id)) (m1 : mg "list" = none) (m2 : mg "range" = none) : FnG P w K mg base CX0 3 f fd ["jar", "many"] prRow.sp := by
  refine fn_ok F scRow (fun _ => rfl) (fun _ => rfl) fun cdv A outer s0 H Ee fm a hpre => ?_
  obtain ⟨p, j, m⟩ := a
  obtain ⟨hm0, hm1⟩ := hpre
  dsimp only at hm0 hm1
  let St : List Int × List Txt → List Wk.Slot := fun t => [.par p (cl (rowJ j m).l), vl m, .own (cl t.1), .own (cl t.2), .no, .no]
  let t0 : List Int × List Txt := (rowSpots j m, (List.replicate (2 * m).toNat [([] : Txt)]).flatten)
  let tE := (rowLets j m).foldl rowStep t0
  have lets : (rowLets j m).length = m.toNat ∧ ∀ c ∈ rowLets j m, c.length ≤ 1 := by
    have pm := mixV_perm (rowJ0 j m) (sing abc)
    have l10 : (mixV (rowJ0 j m) (sing abc)).length = 10 := pm.length_eq
    have e : rowLets j m = (mixV (rowJ0 j m) (sing abc)).take m.toNat := by
      unfold rowLets cutL
      rw [l10]
      show List.take (HT.sIx 10 10 (some m) - 0) (List.drop 0 _) = _
      rw [show HT.sIx 10 10 (some m) = m.toNat by unfold HT.sIx; simp only; rw [if_neg (by omega)]; omega]
      rfl
    rw [e]
    refine ⟨by rw [List.length_take, l10]; omega, fun c hc => ?_⟩
    have := pm.subset (List.take_subset _ _ hc)
    obtain ⟨k, _, rfl⟩ := List.mem_map.mp this
    exact Nat.le_refl 1
  have i0 : RowInv m (2 * m).toNat t0 := by
    have pm := mixV_perm j ((List.range (2 * m).toNat).map fun k : Nat => (k : Int))
    refine ⟨?_, ?_, fun v hv => ?_, fun s hs => ?_⟩
    · show (mixV j _).length = _
      rw [pm.length_eq, List.length_map, List.length_range]
    · show (List.replicate (2 * m).toNat [([] : Txt)]).flatten.length = _
      simp
    · obtain ⟨k, hk, rfl⟩ := List.mem_map.mp (pm.subset hv)
      rw [List.mem_range] at hk
      omega
    · have hs' : s ∈ (List.replicate (2 * m).toNat [([] : Txt)]).flatten := hs
      obtain ⟨u, hu, hsu⟩ := List.mem_flatten.mp hs'
      rw [(List.mem_replicate.mp hu).2, List.mem_singleton] at hsu
      rw [hsu]
      exact Nat.zero_le 1
  have inv : ∀ i : Nat, i ≤ (rowLets j m).length → RowInv m (2 * m.toNat - 2 * i) (((rowLets j m).take i).foldl rowStep t0) := by
    intro i
    induction i with
    | zero => intro _; simpa [show 2 * m.toNat = (2 * m).toNat by omega] using i0
    | succ i ih =>
      intro hi
      have h := ih (by omega)
      have hx : (rowLets j m)[i]? = some (rowLets j m)[i] := List.getElem?_eq_getElem (by omega)
      rw [List.take_succ, hx, List.foldl_append]
      have hc := lets.2 _ (List.mem_of_getElem? hx)
      have e1 : 2 * m.toNat - 2 * i = (2 * m.toNat - 2 * (i + 1) + 1) + 1 := by omega
      rw [e1] at h
      exact (h.put hc).put hc
  refine ⟨(St tE).set 3 (vl tE.2), ?_, ?_⟩
  · intro pc hpc
    rw [List.mem_singleton.mp hpc]
    exact ⟨0, rfl⟩
  have sumle : (tE.2.map List.length).sum ≤ 20 := by
    have h := inv (rowLets j m).length (Nat.le_refl _)
    rw [List.take_length] at h
    have aux : ∀ l : List Txt, (∀ s ∈ l, s.length ≤ 1) → (l.map List.length).sum ≤ l.length := by
      intro l
      induction l with
      | nil => intro _; exact Nat.le_refl _
      | cons s l ih =>
        intro hh
        have := ih fun s hs => hh s (List.mem_cons_of_mem _ hs)
        have := hh s List.mem_cons_self
        simp only [List.map_cons, List.sum_cons, List.length_cons]
        omega
    have a1 := aux tE.2 h.one
    have a2 := h.fl
    have : tE.2.length = (2 * m).toNat := a2
    omega
  show BodyOk _ _ _ (rv (rowV j m)) _
  refine .ret ?_
  refine g_cons (g1_par2 (c := cl (rowSpots j m)) (d := cl (List.replicate (2 * m).toNat [([] : Txt)]).flatten) fm 2 3
    (x_call1N (c' := cl (rowJ0 j m).l) fm Fl (fun q => (q, j, _)) (a_s fm 0 rfl (fun _ => .inl rfl) (.inr ⟨p, rfl⟩) (a_v (EN.val fm (x_listRg1 (n := 2 * m) fm (x_mul fm (x_int fm) (x_var fm 1 rfl (fun _ => .inl rfl) rfl) (.inl (by decide))) ⟨by omega, by omega⟩ (fun _ => rfl) m1 (fun _ => rfl) m2)) a_nil)) (fun _ => ?_) rfl (.inr ⟨p, rfl⟩) (fun _ => ⟨⟨rfl, rfl, rfl⟩, rfl, trivial⟩) (fun _ => rfl) (fun _ => rfl) (Nat.le_refl 2) (fun _ => rfl))
    (x_rep (xs := [([] : Txt)]) (k := 2 * m) fm (EN.val fm (x_list (xs := [([] : Txt)]) (a_v (x_str fm []) a_nil) (by decide))) (x_mul fm (x_int fm) (x_var fm 1 rfl (fun _ => .inl rfl) rfl) (.inl (by decide))) (by omega) (by simp; omega) (by omega)) rfl rfl (by decide) (fun _ => rfl) (fun _ => rfl)) ?_
  · show ((List.range (2 * m).toNat).map fun k : Nat => (k : Int)).length < 1000
    rw [List.length_map, List.length_range]
    omega
  refine g_cons (g1_forN fm St t0 tE (fun x t => (St t).set 4 (vl x)) (fun t c => rowStep t c) (fun i t => t = ((rowLets j m).take i).foldl rowStep t0)
    (src_list (xs := rowLets j m) fm (EN.val fm (x_slL (xs := mixV (rowJ0 j m) (sing abc)) fm (EN.val fm (x_call1N (c' := cl (rowJ j m).l) fm Ft (fun q => (q, rowJ0 j m, abc)) (a_s fm 0 rfl (fun _ => .inl rfl) (.inr ⟨p, rfl⟩) (a_v (x_str fm abc) a_nil)) (fun _ => ?_) rfl (.inr ⟨p, rfl⟩) (fun _ => ⟨⟨rfl, rfl, rfl⟩, rfl, trivial⟩) (fun _ => rfl) (fun _ => rfl) (Nat.le_refl 2) (fun _ => rfl))) o_none (o_some (x_var fm 1 rfl (fun _ => .inl rfl) rfl)))))
    (Wks.refl _) rfl rfl (fun x t => tg_name fm 4 rfl (fun _ => .inl rfl) (fun _ => .inr rfl)) (fun i t x hx iv => ?_)) ?_
  · show (sing abc).length < 1000
    decide
  · subst iv
    have hi : i < (rowLets j m).length := (List.getElem?_eq_some_iff.mp hx).1
    have hI := inv i (by omega)
    have hc := lets.2 x (List.mem_of_getElem? hx)
    generalize ht : ((rowLets j m).take i).foldl rowStep t0 = t at hI
    have e1 : 2 * m.toNat - 2 * i = (2 * m.toNat - 2 * (i + 1) + 1) + 1 := by omega
    rw [e1] at hI
    refine ⟨⟨(St (rowStep t x)).set 4 (vl x), .inl (g_one (g1_forN fm (fun u => (St u).set 4 (vl x)) t (rowStep t x) (fun k u => ((St u).set 4 (vl x)).set 5 (vl k)) (fun u (_ : Int) => rowPut x u) (fun k u => u = t ∧ k = 0 ∨ u = rowPut x t ∧ k = 1 ∨ k = 2)
      (src_range1 (n := 2) fm (x_int fm) (fun _ => rfl) m2 (by decide)) (Wks.refl _) (.inl ⟨rfl, rfl⟩) rfl (fun k u => tg_name fm 5 rfl (fun _ => .inl rfl) (fun _ => .inr rfl)) (fun k u y hy iu => ?_))), ?_⟩, ?_⟩
    · have hk : k < 2 := (List.getElem?_eq_some_iff.mp hy).1
      have hu : ∃ n, RowInv m (n + 1) u := by
        rcases iu with ⟨rfl, _⟩ | ⟨rfl, _⟩ | h
        · exact ⟨_, hI⟩
        · exact ⟨_, hI.put hc⟩
        · omega
      obtain ⟨n, hu⟩ := hu
      have ne : u.1 ≠ [] := fun z => by
        have := hu.sp
        rw [z] at this
        simp at this
      obtain ⟨lm, ll⟩ := getLastD_mem ne
      obtain ⟨b0, b1⟩ := hu.inn _ lm
      refine ⟨⟨_, .inl (g_one (g1_setOx (xs := u.2) (c0 := cl u.2) (i := u.1.getLastD 0) (n := (u.1.getLastD 0).toNat) (a := x) fm 3 rfl (fun _ => .inl rfl) (x_var fm 4 rfl (fun _ => .inl rfl) rfl) (x_pop (xs := u.1) (a := u.1.getLastD 0) fm 2 rfl (fun _ => .inl rfl) (.inl rfl) ll) (.inl rfl) (.inl rfl) ?_)), ?_⟩, ?_⟩
      · unfold ixN
        rw [if_pos b0, if_pos (by rw [hu.fl]; omega)]
      · exact ⟨.inl rfl, .inl rfl, .inl rfl, .inl rfl, .inl rfl, .inr rfl, trivial⟩
      · rcases iu with ⟨rfl, h⟩ | ⟨_, h⟩ | h
        · exact .inr (.inl ⟨rfl, by omega⟩)
        · exact .inr (.inr (by omega))
        · omega
    · exact ⟨.inl rfl, .inl rfl, .inl rfl, .inl rfl, .inr rfl, .inl rfl, trivial⟩
    · rw [List.take_succ, hx, List.foldl_append, ht]
      rfl
  · exact g_frz (xs := tE.2) 3 rfl (g_end (g1_ret (x_join0 fm (x_str fm []) (x_var fm 3 rfl (fun _ => .inl rfl) rfl) (Nat.le_trans sumle (by decide)))))
end Law

namespace Law
open PySem L2 Wk
/-! ### _law_jar -/
abbrev sJar : Stmt := topS 29
def stirF (at_ : Int) (s e : Int) : Int := (s * 40009 + e + at_) % 2147483563
def stirs (ns : List Int) (at_ : Int) : Int := (cutL ns none (some 24)).foldl (stirF at_) (15013 + 7919 * at_)
def ownOf (ns : List Int) (at_ : Int) : Int := if at_ < ns.length then ns.getD at_.toNat 0 else stirs ns at_
def heldOf (o : Int) : Int := if o < 0 ∨ 10 ^ 18 ≤ o then (if o < 0 then -o else o) else 0
def jarOf (ns : List Int) (at_ : Int) : Jar := ⟨heldOf (ownOf ns at_), (stirs ns at_ * 5 + ownOf ns at_) % 2147483563, 0⟩
def prJar (K : PySem.W.Frag) : Pr := { A := Scr K × Int, ins := fun a => [vl a.1, vl a.2], pre := fun a => 0 ≤ a.2 ∧ a.2 ≤ 100, res := fun a => rn (jarOf a.1.ns a.2).l, outs := fun _ => [] }
theorem scJar : FnScope ["script", "at", "stirred", "each", "own", "held"] ["script", "at"] (defScope sJar) := ⟨rfl, rfl, rfl, by decide +kernel, rfl, by decide +kernel, by decide +kernel⟩
theorem ok_jar {P : Program} {w : World} {K : PySem.W.Frag} {mg : Str → Option Value} {base : Heap} {f : Addr} {fd : FuncData} (F : Fun K "_law_jar" "_law_jar" sJar f fd) (m1 : mg "int" = none) (m2 : mg "len" = none) (m3 : mg "abs" = none) : FnG P w K mg base CX0 1 f fd ["script", "at"] (prJar K).sp := by
  refine fn_ok F scJar (fun _ => rfl) (fun _ => rfl) fun cdv A outer s0 H Ee fm a hpre => ?_
  obtain ⟨⟨ns⟩, n⟩ := a
  obtain ⟨h0, h1⟩ := hpre
  dsimp only at h0 h1
  let St : Int → List Wk.Slot := fun t => [vl (Scr.mk ns : Scr K), vl n, vl t, .no, .no, .no]
  refine ⟨[vl (Scr.mk ns : Scr K), vl n, vl (stirs ns n), .no, vl (ownOf ns n), vl (heldOf (ownOf ns n))], fun pc hpc => (by simp [prJar] at hpc), .new ?_⟩
  refine g_cons (g1_asg (x_add fm (x_int fm) (x_mul fm (x_int fm) (x_var fm 1 rfl (fun _ => .inl rfl) rfl) (.inl (by decide)))) (tg_name fm 2 rfl (fun _ => .inl rfl) (fun _ => .inr rfl))) ?_
  refine g_cons (g1_forN fm St (15013 + 7919 * n) (stirs ns n) (fun x t => (St t).set 3 (vl x)) (fun t e => stirF n t e) (fun _ _ => True)
    (src_list (xs := cutL ns none (some 24)) fm (EN.val fm (x_slScr (S := ⟨P, w, K, mg, base, _, 0⟩) (s := Scr.mk ns) fm (x_var fm 0 rfl (fun _ => .inl rfl) rfl) o_none (o_some (x_int fm))))) (Wks.refl _) trivial rfl (fun x t => tg_name fm 3 rfl (fun _ => .inl rfl) (fun _ => .inr rfl)) (fun i t x hx _ => ⟨⟨_, .inl (g_one (g1_asg
      (x_mod fm (x_int1 fm (x_add fm (x_add fm (x_mul fm (x_var fm 2 rfl (fun _ => .inl rfl) rfl) (x_int fm) (.inr (by decide))) (x_int1 fm (x_var fm 3 rfl (fun _ => .inl rfl) rfl) (fun _ => rfl) m1)) (x_var fm 1 rfl (fun _ => .inl rfl) rfl)) (fun _ => rfl) m1) (x_int fm) (by decide)) (tg_name fm 2 rfl (fun _ => .inl rfl) (fun _ => .inr rfl)))), ?_⟩, trivial⟩)) ?_
  · exact ⟨.inl rfl, .inl rfl, .inl rfl, .inr rfl, .inl rfl, .inl rfl, trivial⟩
  refine g_cons (g1_asg (a := ownOf ns n) (x_if (t_lt fm (x_var fm 1 rfl (fun _ => .inl rfl) rfl) (x_lenScr (S := ⟨P, w, K, mg, base, _, 0⟩) (s := Scr.mk ns) fm (x_var fm 0 rfl (fun _ => .inl rfl) rfl) (fun _ => rfl) m2)) (fun hc => x_int1 fm (x_ixScr (S := ⟨P, w, K, mg, base, _, 0⟩) (s := Scr.mk ns) (i := n) fm (x_var fm 0 rfl (fun _ => .inl rfl) rfl) (x_var fm 1 rfl (fun _ => .inl rfl) rfl) ?_) (fun _ => rfl) m1) (fun hc => ?_)) (tg_name fm 4 rfl (fun _ => .inl rfl) (fun _ => .inr rfl))) ?_
  · have hc' : n < ns.length := of_decide_eq_true hc
    have hj : n.toNat < ns.length := by omega
    unfold L2.atI ixN ownOf
    rw [if_pos h0, if_pos hc', if_pos hc']
    show ns[n.toNat]? = _
    rw [List.getD_eq_getElem?_getD, List.getElem?_eq_getElem hj]
    rfl
  · have hc' : ¬ n < ns.length := of_decide_eq_false hc
    have e : ownOf ns n = stirs ns n := by
      unfold ownOf
      rw [if_neg hc']
    rw [e]
    exact x_var fm 2 rfl (fun _ => .inl rfl) rfl
  generalize ho : ownOf ns n = o
  refine g_cons (g1_asg (a := heldOf o) (sl1 := (St (stirs ns n)).set 4 (vl o)) (x_if (Ts.t (ts_or (t_lt fm (x_var fm 4 rfl (fun _ => .inl rfl) rfl) (x_int fm)) (fun _ => ts_or1 (t_ge fm (x_var fm 4 rfl (fun _ => .inl rfl) rfl) (x_pow fm (x_int fm) (x_int fm) ⟨by decide, by decide, by decide⟩))))) (fun hc => ?_) (fun hc => ?_)) (tg_name fm 5 rfl (fun _ => .inl rfl) (fun _ => .inr rfl))) ?_
  · have e : heldOf o = if o < 0 then -o else o := by
      unfold heldOf
      rw [if_pos]
      rw [Bool.or_eq_true, decide_eq_true_eq, decide_eq_true_eq] at hc
      exact hc
    rw [e]
    exact x_abs fm (x_var fm 4 rfl (fun _ => .inl rfl) rfl) (fun _ => rfl) m3
  · have e : heldOf o = 0 := by
      unfold heldOf
      rw [if_neg]
      rw [Bool.or_eq_false_iff, decide_eq_false_iff_not, decide_eq_false_iff_not] at hc
      exact fun z => z.elim hc.1 hc.2
    rw [e]
    exact x_int fm
  refine g_end (g1_retN (c := cl (jarOf ns n).l) ?_)
  unfold jarOf
  rw [ho]
  exact x_list (xs := [heldOf o, (stirs ns n * 5 + o) % 2147483563, 0]) (a_v (x_var fm 5 rfl (fun _ => .inl rfl) rfl) (a_v (x_mod fm (x_int1 fm (x_add fm (x_mul fm (x_var fm 2 rfl (fun _ => .inl rfl) rfl) (x_int fm) (.inr (by decide))) (x_var fm 4 rfl (fun _ => .inl rfl) rfl)) (fun _ => rfl) m1) (x_int fm) (by decide)) (a_v (x_int fm) a_nil))) (by show 3 ≤ 16777216; decide)
end Law

namespace Law
open PySem L2 Wk
/-! ### law -/
abbrev sLaw : Stmt := topS 44
def prRight : Pr := { A := Addr × Jar, ins := fun a => [.par a.1 (cl a.2.l)], pre := fun _ => True, res := fun _ => rv true, outs := fun _ => [] }
def prLaw (K : PySem.W.Frag) : Pr := { A := Scr K, ins := fun a => [vl a], pre := fun a => a.ns.length ≤ 63, res := fun _ => rv true, outs := fun _ => [] }
theorem scLaw : FnScope ["script", "at"] ["script"] (defScope sLaw) := ⟨rfl, rfl, rfl, by decide +kernel, rfl, by decide +kernel, by decide +kernel⟩
theorem ok_law {P : Program} {w : World} {K : PySem.W.Frag} {mg : Str → Option Value} {base : Heap} {f : Addr} {fd : FuncData} {k : Nat} (F : Fun K "law" "law" sLaw f fd) (Fj : Fnc P w K mg base 1 "_law_jar" ["script", "at"] (prJar K)) (Fr : Fnc P w K mg base k "_law_right" ["jar"] prRight) (hk : 1 ≤ k) (m1 : mg "all" = none) (m2 : mg "range" = none) (m3 : mg "max" = none) (m4 : mg "min" = none) (m5 : mg "len" = none) : FnG P w K mg base CX0 (k + 1) f fd ["script"] (prLaw K).sp := by
  refine fn_ok F scLaw (fun _ => rfl) (fun _ => rfl) fun cdv A outer s0 H Ee fm a hpre => ?_
  obtain ⟨ns⟩ := a
  have hlen : ns.length ≤ 63 := hpre
  refine ⟨[vl (Scr.mk ns : Scr K), .no], fun pc hpc => (by simp [prLaw] at hpc), .ret (b := true) (g_end (g1_ret ?_))⟩
  generalize hm : (if (if (5 : Int) < (ns.length : Int) then (5 : Int) else (ns.length : Int)) > 2 then (if (5 : Int) < (ns.length : Int) then (5 : Int) else (ns.length : Int)) else 2) = m
  have hm2 : 0 ≤ m ∧ m ≤ 5 := by
    rw [← hm]
    split <;> split <;> omega
  have e : true = (((List.range m.toNat).map fun k : Nat => (k : Int)).map fun _ => true).all id := by simp
  rw [e]
  refine x_all fm (EN.val fm (x_lcNM (y := "at") 1 fm (fun _ => true) (src_range1 (n := m) fm ?_ (fun _ => rfl) m2 (by omega)) (fun _ => blkOk_by (N := ["script", "at"]) (sc := defScope sLaw) (by decide +kernel)) rfl (fun _ => .inl rfl) (fun _ => .inr rfl) rfl (by simp; omega) (fun x hx => ?_))) (fun _ => rfl) m1
  · rw [← hm]
    exact x_max2 fm (a_v (x_int fm) (a_v (x_min2 fm (a_v (x_lenScr (S := ⟨P, w, K, mg, base, _, k⟩) (s := Scr.mk ns) fm (x_var fm 0 rfl (fun _ => .inr (.inl rfl)) rfl) (fun _ => rfl) m5) (a_v (x_int fm) a_nil)) (fun _ => rfl) m4) a_nil)) (fun _ => rfl) m3
  · have hx2 : 0 ≤ x ∧ x ≤ 100 := by
      obtain ⟨q, hq, rfl⟩ := List.mem_map.mp hx
      rw [List.mem_range] at hq
      omega
    refine x_callNew (fm.blk _) Fr (fun p => (p, jarOf ns x)) (c := cl (jarOf ns x).l) ?_ (fun _ => rfl) (fun _ => trivial) (fun _ => rfl) (Nat.le_refl k) (fun _ => rfl)
    exact x_callN (fm.blk _) Fj ((Scr.mk ns : Scr K), x) (a_v (x_var (fm.blk _) 0 rfl (fun _ => .inr (.inl rfl)) rfl) (a_v (x_var (fm.blk _) 1 rfl (fun _ => .inl rfl) rfl) a_nil)) hx2 ⟨rfl, rfl, trivial⟩ rfl hk (fun _ => rfl)
end Law

namespace Law
open PySem L2 Wk
/-- the module's names that are no names of its own, and its constants -/
structure Bare (mg : Str → Option Value) : Prop where
  len : mg "len" = none
  all : mg "all" = none
  sorted : mg "sorted" = none
  set : mg "set" = none
  isi : mg "isinstance" = none
  str : mg "str" = none
  int : mg "int" = none
  bool : mg "bool" = none
  list : mg "list" = none
  range : mg "range" = none
  dict : mg "dict" = none
  zip : mg "zip" = none
  enum : mg "enumerate" = none
  most : ∃ t, mg "MOST_LETTERS" = some (.int 10 t)
  lets : ∃ t, mg "LETTERS" = some (.str (tx abc) t)

def sgs (l : Txt) : List Txt := l.map fun c => [c]
theorem sgs_flat (l : Txt) : (sgs l).flatten = l := by
  induction l with
  | nil => rfl
  | cons c l ih =>
    show [c] ++ (sgs l).flatten = c :: l
    rw [ih]
    rfl
theorem sgs_len (l : Txt) : (sgs l).length = l.length := List.length_map _
theorem sgs_mem {l t : Txt} : t ∈ sgs l ↔ ∃ c ∈ l, t = [c] := by
  unfold sgs
  rw [List.mem_map]
  exact ⟨fun ⟨c, h, e⟩ => ⟨c, h, e.symm⟩, fun ⟨c, h, e⟩ => ⟨c, h, e.symm⟩⟩
theorem sgs_sum (l : Txt) : ((sgs l).map List.length).sum = l.length := by
  induction l with
  | nil => rfl
  | cons c l ih =>
    show 1 + ((sgs l).map List.length).sum = l.length + 1
    rw [ih]
    omega
theorem ups_len (l : Txt) : (ups l).length ≤ l.length := by
  have aux : ∀ (c : Nat) (l : Txt), (insUp c l).length ≤ l.length + 1 := by
    intro c l
    induction l with
    | nil => simp [insUp]
    | cons d l ih =>
      unfold insUp
      split
      · simp
      · split
        · simp
        · simp only [List.length_cons]
          omega
  induction l with
  | nil => simp [ups]
  | cons c l ih =>
    have := aux c (ups l)
    show (insUp c (ups l)).length ≤ _
    simp only [List.length_cons]
    omega

/-! ### letters_in -/
abbrev sLin : Stmt := topS 11
def prLin : Pr := { A := Txt, ins := fun l => [vl l], pre := fun l => l.length < 60, res := fun l => rv (ups l : Txt), outs := fun _ => [] }
theorem scLin : FnScope ["row"] ["row"] (defScope sLin) := ⟨rfl, rfl, rfl, by decide +kernel, rfl, by decide +kernel, by decide +kernel⟩
theorem ok_lin {P : Program} {w : World} {K : PySem.W.Frag} {mg : Str → Option Value} {base : Heap} {f : Addr} {fd : FuncData} (F : Fun K "letters_in" "letters_in" sLin f fd) (m : Bare mg) : FnG P w K mg base CX0 1 f fd ["row"] prLin.sp := by
  refine fn_ok F scLin (fun _ => rfl) (fun _ => rfl) fun cdv A outer s0 H Ee fm (l : Txt) hpre => ?_
  have hl : l.length < 60 := hpre
  refine ⟨[vl (l : Txt)], fun pc hpc => by simp [prLin] at hpc, ?_⟩
  have e : (ups l : Txt) = ((ups l).map fun c => ([c] : Txt)).flatten := (sgs_flat (ups l)).symm
  show BodyOk _ _ _ (rv (ups l : Txt)) _
  rw [e]
  refine .ret (g_end (g1_ret (x_join0 fm (x_str fm []) (EN.val fm (x_ups (l := l) fm (x_var fm 0 rfl (fun _ => .inl rfl) rfl) hl (fun _ => rfl) m.sorted (fun _ => rfl) m.set)) ?_)))
  have h1 := sgs_sum (ups l)
  have h2 := ups_len l
  unfold sgs at h1
  rw [h1]
  omega

/-! ### is_word -/
abbrev sWord : Stmt := topS 12
def wordB (l : Txt) : Bool := decide (1 ≤ (l.length : Int)) && decide ((l.length : Int) ≤ 20) && l.all fun c => decide (c ∈ abc)
def prWord : Pr := { A := Txt, ins := fun l => [vl l], pre := fun l => l.length < 60, res := fun l => rv (wordB l), outs := fun _ => [] }
theorem scWord : FnScope ["value", "sign"] ["value"] (defScope sWord) := ⟨rfl, rfl, rfl, by decide +kernel, rfl, by decide +kernel, by decide +kernel⟩
theorem ok_word {P : Program} {w : World} {K : PySem.W.Frag} {mg : Str → Option Value} {base : Heap} {f : Addr} {fd : FuncData} (F : Fun K "is_word" "is_word" sWord f fd) (m : Bare mg) : FnG P w K mg base CX0 1 f fd ["value"] prWord.sp := by
  refine fn_ok F scWord (fun _ => rfl) (fun _ => rfl) fun cdv A outer s0 H Ee fm (l : Txt) hpre => ?_
  have hl : l.length < 60 := hpre
  refine ⟨[vl (l : Txt), .no], fun pc hpc => by simp [prWord] at hpc, ?_⟩
  show BodyOk _ _ _ (rv (wordB l)) _
  obtain ⟨tm, em⟩ := m.most
  obtain ⟨tl, el⟩ := m.lets
  refine .ret (ρ := Bool) (b := wordB l) (g_when (b := (!true || !(decide (1 ≤ (l.length : Int)) && decide ((l.length : Int) ≤ 20)))) (Ts.t (ts_or (t_not fm (E.tst fm (x_isStr (l := l) fm (x_var fm 0 rfl (fun _ => .inl rfl) rfl) (fun _ => rfl) m.isi (fun _ => rfl) m.str))) fun _ => ts_or1 (t_not fm
    (t_chainI (i := 1) (j := (l.length : Int)) (k := 20) (fun _ => op_le) (fun _ => op_le) (x_int fm) (x_lenS fm (x_var fm 0 rfl (fun _ => .inl rfl) rfl) (by omega) (fun _ => rfl) m.len) (x_mul (i := 2) (j := 10) fm (x_int fm) (x_glob (x := "MOST_LETTERS") fm (v := .int 10) (fun _ => rfl) em ⟨tm, rfl⟩ (fun _ => rfl)) (.inl (by decide)))))))
    (fun h => ?_) (fun h => ?_))
  · have e : wordB l = false := by
      unfold wordB
      rw [Bool.not_true, Bool.false_or, Bool.not_eq_true'] at h
      rw [h]
      rfl
    rw [e]
    exact g_end (g1_ret (x_bool fm))
  · have e : wordB l = ((sgs l).map fun t => decide (t.headD 0 ∈ abc)).all id := by
      unfold wordB
      rw [Bool.not_true, Bool.false_or, Bool.not_eq_false'] at h
      rw [h, Bool.true_and]
      unfold sgs
      rw [List.map_map, List.all_map]
      rfl
    rw [e]
    refine g_end (g1_ret (x_all fm (EN.val fm (x_lcNM (y := "sign") 1 fm (fun t : Txt => decide (t.headD 0 ∈ abc)) (src_txt (l := l) (x_var fm 0 rfl (fun _ => .inl rfl) rfl)) (fun _ => blkOk_by (N := ["value", "sign"]) (sc := defScope sWord) (by decide +kernel)) rfl (fun _ => .inl rfl) (fun _ => .inr rfl) rfl (by rw [sgs_len]; omega) (fun x hx => ?_))) (fun _ => rfl) m.all))
    obtain ⟨c, _, rfl⟩ := sgs_mem.1 hx
    exact x_inS (fm.blk _) (x_var (fm.blk _) 1 rfl (fun _ => .inl rfl) rfl) (x_glob (x := "LETTERS") (fm.blk _) (v := .str (tx abc)) (fun _ => rfl) el ⟨tl, rfl⟩ (fun _ => rfl))

/-! ### is_row -/
abbrev sIsRow : Stmt := topS 13
/-- how often -/
def cntT (l t : Txt) : Int := (((sgs l).filter fun s => decide (s = t)).map id).length
def rowB (l : Txt) : Bool := wordB l && ((sgs (ups l)).map fun t => decide (cntT l t = 2)).all id
def prIsRow : Pr := { A := Txt, ins := fun l => [vl l], pre := fun l => l.length < 60, res := fun l => rv (rowB l), outs := fun _ => [] }
theorem scIsRow : FnScope ["value", "letter", "sign"] ["value"] (defScope sIsRow) := ⟨rfl, rfl, rfl, by decide +kernel, rfl, by decide +kernel, by decide +kernel⟩
theorem ok_isrow {P : Program} {w : World} {K : PySem.W.Frag} {mg : Str → Option Value} {base : Heap} {f : Addr} {fd : FuncData} (F : Fun K "is_row" "is_row" sIsRow f fd) (Fw : Fnc P w K mg base 1 "is_word" ["value"] prWord) (Fl : Fnc P w K mg base 1 "letters_in" ["row"] prLin) (m : Bare mg) : FnG P w K mg base CX0 2 f fd ["value"] prIsRow.sp := by
  refine fn_ok F scIsRow (fun _ => rfl) (fun _ => rfl) fun cdv A outer s0 H Ee fm (l : Txt) hpre => ?_
  have hl : l.length < 60 := hpre
  refine ⟨[vl (l : Txt), .no, .no], fun pc hpc => by simp [prIsRow] at hpc, ?_⟩
  show BodyOk _ _ _ (rv (rowB l)) _
  refine .ret (ρ := Bool) (b := rowB l) (g_when (b := !wordB l) (t_not fm (E.tst fm (x_call fm Fw l (a_v (x_var fm 0 rfl (fun _ => .inr (.inl rfl)) rfl) a_nil) hl ⟨rfl, trivial⟩ rfl (Nat.le_refl 1) (fun _ => rfl)))) (fun h => ?_) (fun h => ?_))
  · have e : rowB l = false := by
      unfold rowB
      rw [Bool.not_eq_true'] at h
      rw [h]
      rfl
    rw [e]
    exact g_end (g1_ret (x_bool fm))
  · have e : rowB l = ((sgs (ups l)).map fun t => decide (cntT l t = 2)).all id := by
      unfold rowB
      rw [Bool.not_eq_false'] at h
      rw [h, Bool.true_and]
    rw [e]
    refine g_end (g1_ret (x_all fm (EN.val fm (x_lcNM (y := "letter") 1 fm (fun t : Txt => decide (cntT l t = 2)) (src_txt (l := ups l) (x_call fm Fl l (a_v (x_var fm 0 rfl (fun _ => .inr (.inl rfl)) rfl) a_nil) hl ⟨rfl, trivial⟩ rfl (Nat.le_refl 1) (fun _ => rfl))) (fun _ => blkOk_by (N := ["value", "letter", "sign"]) (sc := defScope sIsRow) (by decide +kernel)) rfl (fun _ => .inr rfl) (fun _ => .inl rfl) rfl (by rw [sgs_len]; have := ups_len l; omega) (fun x hx => ?_))) (fun _ => rfl) m.all))
    refine x_eqI (fm.blk _) (x_lenL (fm.blk _) (EN.val (fm.blk _) (x_lcN (y := "sign") 2 (fm.blk _) (fun s : Txt => decide (s = x)) id (src_txt (l := l) (x_var (fm.blk _) 0 rfl (fun _ => .inr (.inl rfl)) rfl)) (fun _ => blkOk_by (N := ["value", "letter", "sign"]) (sc := { kind := .function, names := [(".0", .local), ("letter", .cell), ("len", .globalImplicit), ("value", .cell)], isGenerator := false, isCoroutine := false }) (by decide +kernel)) rfl (fun _ => .inl rfl) (fun _ => .inr rfl) rfl (by rw [sgs_len]; omega) (fun y hy => ⟨?_, fun _ => ?_⟩))) (fun _ => rfl) m.len) (x_int (fm.blk _))
    · exact ti_one (t_eqS ((fm.blk _).blk _) (x_var ((fm.blk _).blk _) 2 rfl (fun _ => .inl rfl) rfl) (x_var ((fm.blk _).blk _) 1 rfl (fun _ => .inr (.inl rfl)) rfl))
    · exact x_var ((fm.blk _).blk _) 2 rfl (fun _ => .inl rfl) rfl
end Law

namespace Law
open PySem L2 Wk

/-! ### check_row, is_whole, is_between, check_place -/
abbrev sCkRow : Stmt := topS 14
def prCkRow : Pr := { A := Txt, ins := fun l => [vl l], pre := fun l => l.length < 60 ∧ rowB l = true, res := fun _ => rv (), outs := fun _ => [] }
theorem scCkRow : FnScope ["value"] ["value"] (defScope sCkRow) := ⟨rfl, rfl, rfl, by decide +kernel, rfl, by decide +kernel, by decide +kernel⟩
theorem ok_ckrow {P : Program} {w : World} {K : PySem.W.Frag} {mg : Str → Option Value} {base : Heap} {f : Addr} {fd : FuncData} (F : Fun K "check_row" "check_row" sCkRow f fd) (Fr : Fnc P w K mg base 2 "is_row" ["value"] prIsRow) : FnG P w K mg base CX0 3 f fd ["value"] prCkRow.sp := by
  refine fn_ok F scCkRow (fun _ => rfl) (fun _ => rfl) fun cdv A outer s0 H Ee fm (l : Txt) hpre => ?_
  have hl : l.length < 60 := hpre.1
  have hr : rowB l = true := hpre.2
  refine ⟨[vl (l : Txt)], fun pc hpc => by simp [prCkRow] at hpc, ?_⟩
  exact .fall (g_no (T.is (t_not fm (E.tst fm (x_call fm Fr l (a_v (x_var fm 0 rfl (fun _ => .inl rfl) rfl) a_nil) hl ⟨rfl, trivial⟩ rfl (Nat.le_refl 2) (fun _ => rfl)))) (by rw [hr]; rfl)) g_nil)
abbrev sWhole : Stmt := topS 9
def prWhole : Pr := { A := Int, ins := fun n => [vl n], pre := fun _ => True, res := fun _ => rv true, outs := fun _ => [] }
theorem scWhole : FnScope ["value"] ["value"] (defScope sWhole) := ⟨rfl, rfl, rfl, by decide +kernel, rfl, by decide +kernel, by decide +kernel⟩
theorem ok_whole {P : Program} {w : World} {K : PySem.W.Frag} {mg : Str → Option Value} {base : Heap} {f : Addr} {fd : FuncData} (F : Fun K "is_whole" "is_whole" sWhole f fd) (m : Bare mg) : FnG P w K mg base CX0 1 f fd ["value"] prWhole.sp := by
  refine fn_ok F scWhole (fun _ => rfl) (fun _ => rfl) fun cdv A outer s0 H Ee fm (n : Int) hpre => ?_
  refine ⟨[vl n], fun pc hpc => by simp [prWhole] at hpc, ?_⟩
  show BodyOk _ _ _ (rv (true && !false)) _
  exact .ret (g_end (g1_ret (x_and (x_isInt (ty := "int") (ans := true) fm (x_var fm 0 rfl (fun _ => .inl rfl) rfl) (by decide +kernel) PyProof.Rows.boot_int (fun _ => rfl) m.isi (fun _ => rfl) m.int) fun _ => x_one (x_not (x_isInt (ty := "bool") (ans := false) fm (x_var fm 0 rfl (fun _ => .inl rfl) rfl) (by decide +kernel) (by decide +kernel) (fun _ => rfl) m.isi (fun _ => rfl) m.bool)))))
abbrev sBetw : Stmt := topS 10
def prBetw : Pr := { A := Int × Int × Int, ins := fun a => [vl a.1, vl a.2.1, vl a.2.2], pre := fun _ => True, res := fun a => rv (decide (a.2.1 ≤ a.1) && decide (a.1 ≤ a.2.2)), outs := fun _ => [] }
theorem scBetw : FnScope ["value", "low", "high"] ["value", "low", "high"] (defScope sBetw) := ⟨rfl, rfl, rfl, by decide +kernel, rfl, by decide +kernel, by decide +kernel⟩
theorem ok_betw {P : Program} {w : World} {K : PySem.W.Frag} {mg : Str → Option Value} {base : Heap} {f : Addr} {fd : FuncData} (F : Fun K "is_between" "is_between" sBetw f fd) (Fw : Fnc P w K mg base 1 "is_whole" ["value"] prWhole) : FnG P w K mg base CX0 2 f fd ["value", "low", "high"] prBetw.sp := by
  refine fn_ok F scBetw (fun _ => rfl) (fun _ => rfl) fun cdv A outer s0 H Ee fm a hpre => ?_
  obtain ⟨n, lo, hi⟩ := a
  refine ⟨[vl n, vl lo, vl hi], fun pc hpc => by simp [prBetw] at hpc, ?_⟩
  show BodyOk _ _ _ (rv (true && (decide (lo ≤ n) && decide (n ≤ hi)))) _
  exact .ret (g_end (g1_ret (x_and (x_call fm Fw n (a_v (x_var fm 0 rfl (fun _ => .inl rfl) rfl) a_nil) trivial ⟨rfl, trivial⟩ rfl (Nat.le_refl 1) (fun _ => rfl)) fun _ => x_one (x_chainI (i := lo) (j := n) (k := hi) (fun _ => op_le) (fun _ => op_le) (x_var fm 1 rfl (fun _ => .inl rfl) rfl) (x_var fm 0 rfl (fun _ => .inl rfl) rfl) (x_var fm 2 rfl (fun _ => .inl rfl) rfl)))))
abbrev sCkPl : Stmt := topS 15
def prCkPl : Pr := { A := Txt × Int, ins := fun a => [vl a.1, vl a.2], pre := fun a => a.1.length < 60 ∧ 0 ≤ a.2 ∧ a.2 < a.1.length, res := fun _ => rv (), outs := fun _ => [] }
theorem scCkPl : FnScope ["row", "value"] ["row", "value"] (defScope sCkPl) := ⟨rfl, rfl, rfl, by decide +kernel, rfl, by decide +kernel, by decide +kernel⟩
theorem ok_ckpl {P : Program} {w : World} {K : PySem.W.Frag} {mg : Str → Option Value} {base : Heap} {f : Addr} {fd : FuncData} (F : Fun K "check_place" "check_place" sCkPl f fd) (Fb : Fnc P w K mg base 2 "is_between" ["value", "low", "high"] prBetw) (m : Bare mg) : FnG P w K mg base CX0 3 f fd ["row", "value"] prCkPl.sp := by
  refine fn_ok F scCkPl (fun _ => rfl) (fun _ => rfl) fun cdv A outer s0 H Ee fm a hpre => ?_
  obtain ⟨l, n⟩ := a
  obtain ⟨hl, h0, h1⟩ := hpre
  dsimp only at hl h0 h1
  have hb : l.length ≤ 16777216 := by omega
  refine ⟨[vl (l : Txt), vl n], fun pc hpc => by simp [prCkPl] at hpc, ?_⟩
  exact .fall (g_no (T.is (t_not fm (E.tst fm (x_call fm Fb (n, 0, (l.length : Int) - 1) (a_v (x_var fm 1 rfl (fun _ => .inl rfl) rfl) (a_v (x_int fm) (a_v (x_sub fm (x_lenS (l := l) fm (x_var fm 0 rfl (fun _ => .inl rfl) rfl) hb (fun _ => rfl) m.len) (x_int fm)) a_nil))) trivial ⟨rfl, rfl, rfl, trivial⟩ rfl (Nat.le_refl 2) (fun _ => rfl)))) (by
    rw [decide_eq_true h0, decide_eq_true (by omega : n ≤ (l.length : Int) - 1)]
    rfl)) g_nil)
end Law

namespace Law
open PySem L2 Wk
abbrev sRen : Stmt := topS 34
theorem scRen : FnScope ["row", "menu", "known", "sign"] ["row", "menu"] (defScope sRen) := ⟨rfl, rfl, rfl, by decide +kernel, rfl, by decide +kernel, by decide +kernel⟩
/-- the signs in the order in which they first come -/
def stF (k t : Txt) : Txt := if t.headD 0 ∈ k then k else k ++ [t.headD 0]
def firsts (l : Txt) : Txt := (sgs l).foldl stF []
/-- the sign that stands for c -/
def swp (a b : Txt) (c : Nat) : Nat := ((a.zip b).find? fun q => decide (q.1 = c)).elim 0 (·.2)
def renV (l u : Txt) : Txt := l.map (swp (firsts l) u)
theorem stF_len (k t : Txt) : k.length ≤ (stF k t).length := by
  unfold stF
  split
  · exact Nat.le_refl _
  · rw [List.length_append]
    omega
theorem stF_foldl : ∀ (ts : List Txt) (k : Txt), k.length ≤ (ts.foldl stF k).length
  | [], _ => Nat.le_refl _
  | t :: ts, k => Nat.le_trans (stF_len k t) (stF_foldl ts (stF k t))
theorem stF_mem {k t : Txt} {c : Nat} : c ∈ stF k t ↔ c ∈ k ∨ c = t.headD 0 := by
  unfold stF
  split
  · rename_i h
    exact ⟨.inl, fun z => z.elim id fun e => by rw [e]; exact h⟩
  · rw [List.mem_append, List.mem_singleton]
theorem foldl_mem : ∀ {l k : Txt} {c : Nat}, c ∈ (sgs l).foldl stF k ↔ c ∈ k ∨ c ∈ l
  | [], k, c => by simp [sgs]
  | d :: l, k, c => by
    have y := foldl_mem (l := l) (k := stF k [d]) (c := c)
    show c ∈ (sgs l).foldl stF (stF k [d]) ↔ _
    rw [y, stF_mem, List.mem_cons]
    show (c ∈ k ∨ c = d) ∨ c ∈ l ↔ _
    rw [or_assoc]
theorem firsts_mem {l : Txt} {c : Nat} : c ∈ firsts l ↔ c ∈ l := by
  unfold firsts
  rw [foldl_mem]
  simp
theorem stF_nodup {k t : Txt} (h : k.Nodup) : (stF k t).Nodup := by
  unfold stF
  split
  · exact h
  · rename_i hn
    rw [List.nodup_append]
    refine ⟨h, by simp, fun a ha b hb e => hn ?_⟩
    rw [List.mem_singleton] at hb
    rw [← hb, ← e]
    exact ha
theorem foldl_nodup : ∀ (ts : List Txt) {k : Txt}, k.Nodup → (ts.foldl stF k).Nodup
  | [], _, h => h
  | _ :: ts, _, h => foldl_nodup ts (stF_nodup h)
theorem firsts_nodup (l : Txt) : (firsts l).Nodup := foldl_nodup _ List.nodup_nil
theorem sub_len : ∀ {k u : Txt}, k.Nodup → (∀ c ∈ k, c ∈ u) → k.length ≤ u.length
  | [], _, _, _ => Nat.zero_le _
  | c :: k, u, h, s => by
    have hc := s c (List.mem_cons_self ..)
    obtain ⟨hn, h'⟩ := List.nodup_cons.mp h
    have y := sub_len (k := k) (u := u.erase c) h' fun d hd => (List.mem_erase_of_ne (by intro e; rw [e] at hd; exact hn hd)).mpr (s d (List.mem_cons_of_mem _ hd))
    rw [List.length_erase_of_mem hc] at y
    have := List.length_pos_of_mem hc
    rw [List.length_cons]
    omega
theorem prs_len {k u : Txt} (h : k.length ≤ u.length) : (prsTx k u).length = k.length := by
  unfold prsTx
  rw [List.length_map, List.length_zip]
  omega
theorem prs_getL {a b : Txt} {c : Nat} (h : c ∈ a) (hl : a.length ≤ b.length) : valV (prsTx a b) (Sum.inr (tx [c])) = some (V.str (tx [swp a b c])) := by
  unfold valV prsTx swp
  rw [List.find?_map]
  have e : ((fun kv : Key × V => decide (kv.1 = Sum.inr (tx [c]))) ∘ fun q : Nat × Nat => ((Sum.inr (tx [q.1]) : Key), V.str (tx [q.2]))) = fun q => decide (q.1 = c) := by
    funext q
    show decide ((Sum.inr (tx [q.1]) : Key) = Sum.inr (tx [c])) = decide (q.1 = c)
    refine decide_eq_decide.mpr ⟨fun y => ?_, fun y => by rw [y]⟩
    have := tx_inj (Sum.inr.inj y)
    simpa using this
  rw [e]
  obtain ⟨i, hi, rfl⟩ := List.mem_iff_getElem.mp h
  cases q : (a.zip b).find? fun q => decide (q.1 = a[i]) with
  | none =>
    have := List.find?_eq_none.mp q (a[i], b[i]'(by omega)) (by
      have : (a.zip b)[i]? = some (a[i], b[i]'(by omega)) := (List.getElem?_zip_eq_some (z := (a[i], b[i]'(by omega)))).mpr ⟨List.getElem?_eq_getElem _, List.getElem?_eq_getElem _⟩
      exact List.mem_of_getElem? this)
    simp at this
  | some y => rfl
theorem key_ne {c d : Nat} (h : c ≠ d) : (Sum.inr (tx [c]) : Key) ≠ Sum.inr (tx [d]) := fun y => h (by
  have := tx_inj (Sum.inr.inj y)
  simpa using this)
theorem prs_key {k u : Txt} {kv : Key × V} (h : kv ∈ prsTx k u) : ∃ c ∈ k, kv.1 = Sum.inr (tx [c]) := by
  obtain ⟨q, hq, rfl⟩ := List.mem_map.mp h
  exact ⟨q.1, (List.of_mem_zip hq).1, rfl⟩
theorem prs_some {k u : Txt} {c : Nat} (hl : k.length ≤ u.length) : (valV (prsTx k u) (Sum.inr (tx [c]))).isSome = decide (c ∈ k) := by
  by_cases h : c ∈ k
  · rw [prs_getL h hl, decide_eq_true h]
    rfl
  · rw [decide_eq_false h]
    have : valV (prsTx k u) (Sum.inr (tx [c])) = none := by
      unfold valV
      have y : (prsTx k u).find? (fun kv => decide (kv.1 = Sum.inr (tx [c]))) = none := by
        rw [List.find?_eq_none]
        intro kv hkv
        obtain ⟨d, hd, e⟩ := prs_key hkv
        rw [e]
        simpa using key_ne (c := d) (d := c) fun z => h (z ▸ hd)
      rw [y]
      rfl
    rw [this]
    rfl
theorem prs_put {k u : Txt} {c : Nat} (hn : c ∉ k) (hl : k.length < u.length) : L2.putK (prsTx k u) (Sum.inr (tx [c])) (V.str (tx [u[k.length]])) = prsTx (k ++ [c]) u := by
  unfold L2.putK
  have h0 : ¬ ((prsTx k u).any fun kv => decide (kv.1 = Sum.inr (tx [c]))) = true := by
    rw [List.any_eq_true]
    rintro ⟨kv, hkv, e⟩
    obtain ⟨d, hd, e'⟩ := prs_key hkv
    rw [e'] at e
    exact key_ne (c := d) (d := c) (fun z => hn (z ▸ hd)) (by simpa using e)
  rw [if_neg h0]
  have e1 : u = u.take k.length ++ u[k.length] :: u.drop (k.length + 1) := by
    rw [List.getElem_cons_drop, List.take_append_drop]
  have e2 : (k ++ [c]).zip u = k.zip u ++ [(c, u[k.length])] := by
    have a1 : (k ++ [c]).zip u = (k ++ [c]).zip (u.take k.length ++ u[k.length] :: u.drop (k.length + 1)) := by rw [← e1]
    have a2 : k.zip u = k.zip (u.take k.length) := by
      have : k.zip u = (k ++ []).zip (u.take k.length ++ u[k.length] :: u.drop (k.length + 1)) := by rw [← e1, List.append_nil]
      rw [this, List.zip_append (by rw [List.length_take]; omega)]
      simp
    rw [a1, a2, List.zip_append (by rw [List.length_take]; omega)]
    rfl
  unfold prsTx
  rw [e2, List.map_append]
  rfl
theorem sgs_at {u : Txt} {n : Nat} (h : n < u.length) : L2.atI (sgs u) (n : Int) = some [u[n]] := by
  unfold sgs
  exact L2.atI_nat (by simp [h])
theorem txt_at {u : Txt} {n : Nat} (h : n < u.length) : L2.atI u (n : Int) = some u[n] := L2.atI_nat (by simp [h])
theorem _root_.Wk.E.cast {ι : Type} {X : ι → Cx} {sl sl1 : List Slot} {e : Expr} {m n : Nat} (h : m = n) (y : E X e sl sl1 (m : Int)) : E X e sl sl1 (n : Int) := h ▸ y
/-! ### _law_renamed: menu a text -/
def prRenT : Pr := { A := Txt × Txt, ins := fun a => [vl a.1, vl a.2], pre := fun a => a.1.length < 60 ∧ a.2.length < 60 ∧ (firsts a.1).length ≤ a.2.length, res := fun a => rv (renV a.1 a.2), outs := fun _ => [] }
theorem ok_renT {P : Program} {w : World} {K : PySem.W.Frag} {mg : Str → Option Value} {base : Heap} {f : Addr} {fd : FuncData} (F : Fun K "_law_renamed" "_law_renamed" sRen f fd) (m2 : mg "len" = none) : FnG P w K mg base CX0 1 f fd ["row", "menu"] prRenT.sp := by
  refine fn_ok F scRen (fun _ => rfl) (fun _ => rfl) fun cdv A outer s0 H Ee fm a hpre => ?_
  obtain ⟨l, u⟩ := a
  obtain ⟨hl, hu, hf⟩ := hpre
  dsimp only at hl hu hf
  let St : Txt → List Slot := fun k => [vl (l : Txt), vl (u : Txt), .own (cdk (prsTx k u)), .no]
  refine ⟨St (firsts l), fun pc hpc => by simp [prRenT] at hpc, ?_⟩
  have e2 : ((sgs l).map fun t => ([swp (firsts l) u (t.headD 0)] : Txt)) = sgs (renV l u) := by
    unfold sgs renV
    rw [List.map_map, List.map_map]
    rfl
  have e : renV l u = ((sgs l).map fun t => ([swp (firsts l) u (t.headD 0)] : Txt)).flatten := by
    rw [e2, sgs_flat]
  show BodyOk _ _ _ (rv (renV l u)) _
  rw [e]
  refine .ret (g_cons (g1_own (c := cdk []) (sl1 := [vl (l : Txt), vl (u : Txt), .no, .no]) fm 2 x_dnew rfl (fun _ => .inr rfl) (fun _ => .inl rfl)) (g_cons
    (g1_forN fm St [] (firsts l) (fun x t => (St t).set 3 (vl x)) stF (fun i k => (((sgs l).drop i).foldl stF k = firsts l)) (src_txt (l := l) (x_var fm 0 rfl (fun _ => .inl rfl) rfl)) (Wks.refl _) rfl rfl (fun x t => tg_name fm 3 rfl (fun _ => .inl rfl) (fun _ => .inr rfl)) (fun i k x hx inv => ?_))
    (g_end (g1_ret (x_join0 fm (x_str fm []) (EN.val fm (x_lcNM (y := "sign") 3 fm (xs := sgs l) (fun t : Txt => ([swp (firsts l) u (t.headD 0)] : Txt)) (src_txt (l := l) (x_var fm 0 rfl (fun _ => .inl rfl) rfl)) (fun _ => blkOk_by (N := ["row", "menu", "known", "sign"]) (sc := defScope sRen) (by decide +kernel)) rfl (fun _ => .inl rfl) (fun _ => .inr rfl) rfl (by rw [sgs_len]; omega) (fun x hx => ?_))) ?_)))))
  · obtain ⟨c, hc, rfl⟩ := sgs_mem.1 (List.mem_of_getElem? hx)
    have hd : (sgs l).drop i = [c] :: (sgs l).drop (i + 1) := by
      obtain ⟨hi, hx⟩ := List.getElem?_eq_some_iff.mp (show (sgs l)[i]? = some [c] from hx)
      rw [← hx, List.drop_eq_getElem_cons hi]
    rw [hd, List.foldl_cons] at inv
    have hk := stF_foldl ((sgs l).drop (i + 1)) (stF k [c])
    rw [inv] at hk
    have hk0 := stF_len k [c]
    have hb : (valV (prsTx k u) (Sum.inr (tx [c]))).isSome = decide (c ∈ k) := prs_some (by omega)
    refine ⟨⟨(St (stF k [c])).set 3 (vl ([c] : Txt)), .inl (g_one (g1_if (sl1 := (St k).set 3 (vl ([c] : Txt))) (b := !(decide (c ∈ k))) ?_ (fun h => ?_) (fun h => ?_))), ?_⟩, inv⟩
    · rw [← hb]
      exact t_dnotin fm 2 rfl (fun _ => .inr (.inl rfl)) (x_var (a := ([c] : Txt)) fm 3 rfl (fun _ => .inl rfl) rfl) (.inl rfl)
    · have hn : c ∉ k := by simpa using h
      have e3 : stF k [c] = k ++ [c] := if_neg hn
      rw [e3, List.length_append, List.length_singleton] at hk
      have hkl : k.length < u.length := by omega
      have e4 : L2.putK (prsTx k u) (Sum.inr (tx [c])) (V.str (tx [u[k.length]])) = prsTx (k ++ [c]) u := prs_put hn hkl
      rw [e3]
      show G _ _ _ (.next [vl (l : Txt), vl (u : Txt), .own (cdk (prsTx (k ++ [c]) u)), vl ([c] : Txt)])
      rw [← e4]
      exact g_one (g1_dput (ρ := Txt) (sl := (St k).set 3 (vl ([c] : Txt))) (k := ([c] : Txt)) (c := ([u[k.length]] : Txt)) (kvs := prsTx k u) fm 2 rfl (fun _ => .inr (.inl rfl)) (x_ixS (l := u) (i := (k.length : Int)) (x_var fm 1 rfl (fun _ => .inl rfl) rfl) (E.cast (prs_len (k := k) (u := u) (by omega)) (x_lenD fm 2 rfl (fun _ => .inr (.inl rfl)) (.inl rfl) (fun _ => rfl) m2)) (txt_at hkl) (by omega)) (x_var (a := ([c] : Txt)) fm 3 rfl (fun _ => .inl rfl) rfl) (.inl rfl) (.inl rfl) (by rw [prs_len (by omega)]; omega))
    · have hn : c ∈ k := by simpa using h
      have e3 : stF k [c] = k := if_pos hn
      rw [e3]
      exact g_nil
    · exact ⟨.inl rfl, .inl rfl, .inl rfl, .inr rfl, trivial⟩
  · obtain ⟨c, hc, rfl⟩ := sgs_mem.1 hx
    exact x_dget (b := ([swp (firsts l) u c] : Txt)) (fm.blk _) 2 rfl (fun _ => .inr (.inl rfl)) (x_var (a := ([c] : Txt)) (fm.blk _) 3 rfl (fun _ => .inl rfl) rfl) (.inl rfl) (.inl rfl) (prs_getL (firsts_mem.2 hc) hf) (fun _ => rfl)
  · rw [e2, sgs_sum]
    unfold renV
    rw [List.length_map]
    omega
/-! ### _law_renamed: menu a list of signs -/
def prRenL : Pr := { A := Txt × Txt, ins := fun a => [vl a.1, vl (sgs a.2)], pre := fun a => a.1.length < 60 ∧ a.2.length < 60 ∧ (firsts a.1).length ≤ a.2.length, res := fun a => rv (renV a.1 a.2), outs := fun _ => [] }
theorem ok_renL {P : Program} {w : World} {K : PySem.W.Frag} {mg : Str → Option Value} {base : Heap} {f : Addr} {fd : FuncData} (F : Fun K "_law_renamed" "_law_renamed" sRen f fd) (m2 : mg "len" = none) : FnG P w K mg base CX0 1 f fd ["row", "menu"] prRenL.sp := by
  refine fn_ok F scRen (fun _ => rfl) (fun _ => rfl) fun cdv A outer s0 H Ee fm a hpre => ?_
  obtain ⟨l, u⟩ := a
  obtain ⟨hl, hu, hf⟩ := hpre
  dsimp only at hl hu hf
  let St : Txt → List Slot := fun k => [vl (l : Txt), vl (sgs u), .own (cdk (prsTx k u)), .no]
  refine ⟨St (firsts l), fun pc hpc => by simp [prRenL] at hpc, ?_⟩
  have e2 : ((sgs l).map fun t => ([swp (firsts l) u (t.headD 0)] : Txt)) = sgs (renV l u) := by
    unfold sgs renV
    rw [List.map_map, List.map_map]
    rfl
  have e : renV l u = ((sgs l).map fun t => ([swp (firsts l) u (t.headD 0)] : Txt)).flatten := by
    rw [e2, sgs_flat]
  show BodyOk _ _ _ (rv (renV l u)) _
  rw [e]
  refine .ret (g_cons (g1_own (c := cdk []) (sl1 := [vl (l : Txt), vl (sgs u), .no, .no]) fm 2 x_dnew rfl (fun _ => .inr rfl) (fun _ => .inl rfl)) (g_cons
    (g1_forN fm St [] (firsts l) (fun x t => (St t).set 3 (vl x)) stF (fun i k => (((sgs l).drop i).foldl stF k = firsts l)) (src_txt (l := l) (x_var fm 0 rfl (fun _ => .inl rfl) rfl)) (Wks.refl _) rfl rfl (fun x t => tg_name fm 3 rfl (fun _ => .inl rfl) (fun _ => .inr rfl)) (fun i k x hx inv => ?_))
    (g_end (g1_ret (x_join0 fm (x_str fm []) (EN.val fm (x_lcNM (y := "sign") 3 fm (xs := sgs l) (fun t : Txt => ([swp (firsts l) u (t.headD 0)] : Txt)) (src_txt (l := l) (x_var fm 0 rfl (fun _ => .inl rfl) rfl)) (fun _ => blkOk_by (N := ["row", "menu", "known", "sign"]) (sc := defScope sRen) (by decide +kernel)) rfl (fun _ => .inl rfl) (fun _ => .inr rfl) rfl (by rw [sgs_len]; omega) (fun x hx => ?_))) ?_)))))
  · obtain ⟨c, hc, rfl⟩ := sgs_mem.1 (List.mem_of_getElem? hx)
    have hd : (sgs l).drop i = [c] :: (sgs l).drop (i + 1) := by
      obtain ⟨hi, hx⟩ := List.getElem?_eq_some_iff.mp (show (sgs l)[i]? = some [c] from hx)
      rw [← hx, List.drop_eq_getElem_cons hi]
    rw [hd, List.foldl_cons] at inv
    have hk := stF_foldl ((sgs l).drop (i + 1)) (stF k [c])
    rw [inv] at hk
    have hk0 := stF_len k [c]
    have hb : (valV (prsTx k u) (Sum.inr (tx [c]))).isSome = decide (c ∈ k) := prs_some (by omega)
    refine ⟨⟨(St (stF k [c])).set 3 (vl ([c] : Txt)), .inl (g_one (g1_if (sl1 := (St k).set 3 (vl ([c] : Txt))) (b := !(decide (c ∈ k))) ?_ (fun h => ?_) (fun h => ?_))), ?_⟩, inv⟩
    · rw [← hb]
      exact t_dnotin fm 2 rfl (fun _ => .inr (.inl rfl)) (x_var (a := ([c] : Txt)) fm 3 rfl (fun _ => .inl rfl) rfl) (.inl rfl)
    · have hn : c ∉ k := by simpa using h
      have e3 : stF k [c] = k ++ [c] := if_neg hn
      rw [e3, List.length_append, List.length_singleton] at hk
      have hkl : k.length < u.length := by omega
      have e4 : L2.putK (prsTx k u) (Sum.inr (tx [c])) (V.str (tx [u[k.length]])) = prsTx (k ++ [c]) u := prs_put hn hkl
      rw [e3]
      show G _ _ _ (.next [vl (l : Txt), vl (sgs u), .own (cdk (prsTx (k ++ [c]) u)), vl ([c] : Txt)])
      rw [← e4]
      exact g_one (g1_dput (ρ := Txt) (sl := (St k).set 3 (vl ([c] : Txt))) (k := ([c] : Txt)) (c := ([u[k.length]] : Txt)) (kvs := prsTx k u) fm 2 rfl (fun _ => .inr (.inl rfl)) (x_ixL (xs := sgs u) (i := (k.length : Int)) fm (x_var fm 1 rfl (fun _ => .inl rfl) rfl) (E.cast (prs_len (k := k) (u := u) (by omega)) (x_lenD fm 2 rfl (fun _ => .inr (.inl rfl)) (.inl rfl) (fun _ => rfl) m2)) (sgs_at hkl)) (x_var (a := ([c] : Txt)) fm 3 rfl (fun _ => .inl rfl) rfl) (.inl rfl) (.inl rfl) (by rw [prs_len (by omega)]; omega))
    · have hn : c ∈ k := by simpa using h
      have e3 : stF k [c] = k := if_pos hn
      rw [e3]
      exact g_nil
    · exact ⟨.inl rfl, .inl rfl, .inl rfl, .inr rfl, trivial⟩
  · obtain ⟨c, hc, rfl⟩ := sgs_mem.1 hx
    exact x_dget (b := ([swp (firsts l) u c] : Txt)) (fm.blk _) 2 rfl (fun _ => .inr (.inl rfl)) (x_var (a := ([c] : Txt)) (fm.blk _) 3 rfl (fun _ => .inl rfl) rfl) (.inl rfl) (.inl rfl) (prs_getL (firsts_mem.2 hc) hf) (fun _ => rfl)
  · rw [e2, sgs_sum]
    unfold renV
    rw [List.length_map]
    omega
end Law

namespace Law
open PySem L2 Wk

/-! ### places_of, inner_of, mates_of -/
abbrev sPlaces : Stmt := topS 16
/-- where a sign lies -/
def occ (l : Txt) (c : Nat) : List Int := ((numd l).filter fun q => decide (q.2 = [c])).map (·.1)
def prPlaces : Pr := { A := Txt × Nat × Int × Int, ins := fun a => [vl a.1, vl ([a.2.1] : Txt)], pre := fun a => a.1.length < 60 ∧ occ a.1 a.2.1 = [a.2.2.1, a.2.2.2], res := fun a => rv (a.2.2 : Int × Int), outs := fun _ => [] }
theorem scPlaces : FnScope ["row", "letter", "first", "last", "spot", "sign"] ["row", "letter"] (defScope sPlaces) := ⟨rfl, rfl, rfl, by decide +kernel, rfl, by decide +kernel, by decide +kernel⟩
theorem ok_places {P : Program} {w : World} {K : PySem.W.Frag} {mg : Str → Option Value} {base : Heap} {f : Addr} {fd : FuncData} (F : Fun K "places_of" "places_of" sPlaces f fd) (m : mg "enumerate" = none) : FnG P w K mg base CX0 1 f fd ["row", "letter"] prPlaces.sp := by
  refine fn_ok F scPlaces (fun _ => rfl) (fun _ => rfl) fun cdv A outer s0 H Ee fm a hpre => ?_
  obtain ⟨l, c, i, j⟩ := a
  obtain ⟨hl, ho⟩ := hpre
  dsimp only at hl ho
  refine ⟨[vl (l : Txt), vl ([c] : Txt), vl i, vl j, .no, .no], fun pc hpc => by simp [prPlaces] at hpc, ?_⟩
  let S0 : List Wk.Slot := [vl (l : Txt), vl ([c] : Txt), .no, .no, .no, .no]
  refine .ret (g_cons (g1_asg (a := occ l c) (sl1 := S0) (sl2 := [vl (l : Txt), vl ([c] : Txt), vl i, vl j, .no, .no]) (js := [2] ++ [3]) (EN.val fm (x_lcP fm (xs := numd l) (own := [("spot", 4), ("sign", 5)]) (js := [4] ++ [5]) (fun x : Int × Txt => (S0.set 4 (vl x.1)).set 5 (vl x.2)) (fun q => decide (q.2 = [c])) (fun q => q.1)
    (src_et (l := l) fm (x_var fm 0 rfl (fun _ => .inl rfl) rfl) (fun _ => rfl) m) (fun _ => blkOk_by (N := ["row", "letter", "first", "last", "spot", "sign"]) (sc := defScope sPlaces) (by decide +kernel))
    (fun x => tg_pair (fm.blk _) (tg_name (fm.blk _) 4 rfl (fun _ => .inl rfl) (fun _ => .inr rfl)) (tg_name (fm.blk _) 5 rfl (fun _ => .inl rfl) (fun _ => .inr rfl))) (fun k hk => hk) (fun k hk s hs => ?_) (by rw [numd_len]; omega)
    (fun i x hx => ⟨(S0.set 4 (vl x.1)).set 5 (vl x.2), ti_one (t_eqS (fm.blk _) (x_var (fm.blk _) 5 rfl (fun _ => .inl rfl) rfl) (x_var (fm.blk _) 1 rfl (fun _ => .inr (.inl rfl)) rfl)), fun _ => ⟨_, x_var (fm.blk _) 4 rfl (fun _ => .inl rfl) rfl, ?_⟩, fun _ => ?_⟩))) ?_) (g_end (g1_ret (x_pair (a_v (x_var fm 2 rfl (fun _ => .inl rfl) rfl) (a_v (x_var fm 3 rfl (fun _ => .inl rfl) rfl) a_nil))))))
  · rcases (by simpa using hk : k = 4 ∨ k = 5) with rfl | rfl <;> (cases hs; rfl)
  · exact ⟨.inl rfl, .inl rfl, .inl rfl, .inl rfl, .inr rfl, .inr rfl, trivial⟩
  · exact ⟨.inl rfl, .inl rfl, .inl rfl, .inl rfl, .inr rfl, .inr rfl, trivial⟩
  · rw [ho]
    exact tg_lst2 fm (tg_name fm 2 rfl (fun _ => .inl rfl) (fun _ => .inr rfl)) (tg_name fm 3 rfl (fun _ => .inl rfl) (fun _ => .inr rfl))
abbrev sInner : Stmt := topS 18
def prInner : Pr := { A := Txt × Nat × Int × Int, ins := fun a => [vl a.1, vl ([a.2.1] : Txt)], pre := fun a => a.1.length < 60 ∧ occ a.1 a.2.1 = [a.2.2.1, a.2.2.2], res := fun a => rv (cutL a.1 (some (a.2.2.1 + 1)) (some a.2.2.2)), outs := fun _ => [] }
theorem scInner : FnScope ["row", "letter", "first", "last"] ["row", "letter"] (defScope sInner) := ⟨rfl, rfl, rfl, by decide +kernel, rfl, by decide +kernel, by decide +kernel⟩
theorem ok_inner {P : Program} {w : World} {K : PySem.W.Frag} {mg : Str → Option Value} {base : Heap} {f : Addr} {fd : FuncData} (F : Fun K "inner_of" "inner_of" sInner f fd) (Fp : Fnc P w K mg base 1 "places_of" ["row", "letter"] prPlaces) : FnG P w K mg base CX0 2 f fd ["row", "letter"] prInner.sp := by
  refine fn_ok F scInner (fun _ => rfl) (fun _ => rfl) fun cdv A outer s0 H Ee fm a hpre => ?_
  obtain ⟨l, c, i, j⟩ := a
  have hl : l.length < 60 := hpre.1
  refine ⟨[vl (l : Txt), vl ([c] : Txt), vl i, vl j], fun pc hpc => by simp [prInner] at hpc, ?_⟩
  exact .ret (g_cons (g1_asg (a := ((i, j) : Int × Int)) (x_call fm Fp (l, c, i, j) (a_v (x_var fm 0 rfl (fun _ => .inl rfl) rfl) (a_v (x_var fm 1 rfl (fun _ => .inl rfl) rfl) a_nil)) hpre ⟨rfl, rfl, trivial⟩ rfl (Nat.le_refl 1) (fun _ => rfl))
    (tg_pair fm (tg_name fm 2 rfl (fun _ => .inl rfl) (fun _ => .inr rfl)) (tg_name fm 3 rfl (fun _ => .inl rfl) (fun _ => .inr rfl))))
    (g_end (g1_ret (x_slS (l := l) (x_var fm 0 rfl (fun _ => .inl rfl) rfl) (o_some (x_add fm (x_var fm 2 rfl (fun _ => .inl rfl) rfl) (x_int fm))) (o_some (x_var fm 3 rfl (fun _ => .inl rfl) rfl)) (by omega)))))
abbrev sMates : Stmt := topS 19
def onceB (l : Txt) (t : Txt) : Bool := decide ((Txt.find (tx l) (tx t) : Int) = Txt.rfind (tx l) (tx t))
/-- the signs of a text that lie in it once -/
def onceV (l : Txt) : Txt := (ups l).filter fun c => onceB l [c]
def prMates : Pr := { A := Txt × Nat × Int × Int, ins := fun a => [vl a.1, vl ([a.2.1] : Txt)], pre := fun a => a.1.length < 60 ∧ occ a.1 a.2.1 = [a.2.2.1, a.2.2.2], res := fun a => rv (onceV (cutL a.1 (some (a.2.2.1 + 1)) (some a.2.2.2))), outs := fun _ => [] }
theorem scMates : FnScope ["row", "letter", "inside", "sign"] ["row", "letter"] (defScope sMates) := ⟨rfl, rfl, rfl, by decide +kernel, rfl, by decide +kernel, by decide +kernel⟩
theorem cut_le (l : Txt) (a b : Option Int) : (cutL l a b).length ≤ l.length := by
  unfold cutL
  rw [List.length_take, List.length_drop]
  omega
theorem sgs_filter (p : Txt → Bool) (l : Txt) : (sgs l).filter p = sgs (l.filter fun c => p [c]) := by
  unfold sgs
  rw [List.filter_map]
  rfl
theorem ok_mates {P : Program} {w : World} {K : PySem.W.Frag} {mg : Str → Option Value} {base : Heap} {f : Addr} {fd : FuncData} (F : Fun K "mates_of" "mates_of" sMates f fd) (Fi : Fnc P w K mg base 2 "inner_of" ["row", "letter"] prInner) (Fl : Fnc P w K mg base 1 "letters_in" ["row"] prLin) : FnG P w K mg base CX0 3 f fd ["row", "letter"] prMates.sp := by
  refine fn_ok F scMates (fun _ => rfl) (fun _ => rfl) fun cdv A outer s0 H Ee fm a hpre => ?_
  obtain ⟨l, c, i, j⟩ := a
  have hl : l.length < 60 := hpre.1
  have hc := cut_le l (some (i + 1)) (some j)
  show ∃ se, _ ∧ BodyOk _ _ _ (rv (onceV (cutL l (some (i + 1)) (some j)))) _
  obtain ⟨u, hu⟩ : ∃ u : Txt, cutL l (some (i + 1)) (some j) = u := ⟨_, rfl⟩
  rw [hu] at hc ⊢
  have hul := ups_len u
  refine ⟨[vl (l : Txt), vl ([c] : Txt), vl (u : Txt), .no], fun pc hpc => by simp [prMates] at hpc, ?_⟩
  have e : onceV u = (((sgs (ups u)).filter (onceB u)).map id).flatten := by
    rw [List.map_id, sgs_filter, sgs_flat]
    rfl
  rw [e]
  refine .ret (g_cons (g1_asg (a := (u : Txt)) (hu ▸ x_call fm Fi (l, c, i, j) (a_v (x_var fm 0 rfl (fun _ => .inl rfl) rfl) (a_v (x_var fm 1 rfl (fun _ => .inl rfl) rfl) a_nil)) hpre ⟨rfl, rfl, trivial⟩ rfl (Nat.le_refl 2) (fun _ => rfl))
    (tg_name fm 2 rfl (fun _ => .inr rfl) (fun _ => .inl rfl)))
    (g_end (g1_ret (x_join0 fm (x_str fm []) (EN.val fm (x_lcN (y := "sign") 3 fm (onceB u) id (src_txt (l := ups u) ?_) (fun _ => blkOk_by (N := ["row", "letter", "inside", "sign"]) (sc := defScope sMates) (by decide +kernel)) rfl (fun _ => .inl rfl) (fun _ => .inr rfl) rfl (by rw [sgs_len]; omega) (fun y hy => ⟨?_, fun _ => ?_⟩))) ?_))))
  · exact x_call fm Fl (u : Txt) (a_v (x_var fm 2 rfl (fun _ => .inr (.inl rfl)) rfl) a_nil) (show u.length < 60 by omega) ⟨rfl, trivial⟩ rfl (Nat.le_of_ble_eq_true rfl) (fun _ => rfl)
  · exact ti_one (t_eqI (fm.blk _) (x_find (fm.blk _) (x_var (fm.blk _) 2 rfl (fun _ => .inr (.inl rfl)) rfl) (x_var (fm.blk _) 3 rfl (fun _ => .inl rfl) rfl)) (x_rfind (fm.blk _) (x_var (fm.blk _) 2 rfl (fun _ => .inr (.inl rfl)) rfl) (x_var (fm.blk _) 3 rfl (fun _ => .inl rfl) rfl)))
  · exact x_var (fm.blk _) 3 rfl (fun _ => .inl rfl) rfl
  · rw [List.map_id, sgs_filter, sgs_sum]
    have := List.length_filter_le (fun c => onceB u [c]) (ups u)
    omega
end Law

namespace Law
open PySem L2 Wk

/-! ### pairs_linked, links, fresh_letters, in_order -/
abbrev sPairs : Stmt := topS 20
def iAt (l : Txt) (c : Nat) : Int := (occ l c).headD 0
def jAt (l : Txt) (c : Nat) : Int := (occ l c).getD 1 0
theorem occ_two {l : Txt} {c : Nat} (h : (occ l c).length = 2) : occ l c = [iAt l c, jAt l c] := by
  unfold iAt jAt
  generalize occ l c = o at h
  match o, h with
  | [a, b], _ => rfl
def inV (l : Txt) (c : Nat) : Txt := cutL l (some (iAt l c + 1)) (some (jAt l c))
def lnkV (l : Txt) (c : Nat) : List Txt := ((sgs (onceV (inV l c))).filter fun t => decide ([c] < t)).map fun t => [c] ++ t
def pairsV (l : Txt) : List Txt := ((sgs (ups l)).foldl (fun k t => k ++ lnkV l (t.headD 0)) [])
theorem lnk_len (l : Txt) (c : Nat) : (lnkV l c).length ≤ l.length := by
  unfold lnkV
  rw [List.length_map]
  have h1 := List.length_filter_le (fun t : Txt => decide ([c] < t)) (sgs (onceV (inV l c)))
  rw [sgs_len] at h1
  have h2 : (onceV (inV l c)).length ≤ (ups (inV l c)).length := List.length_filter_le _ _
  have h3 := ups_len (inV l c)
  have h4 : (inV l c).length ≤ l.length := cut_le _ _ _
  exact Nat.le_trans h1 (Nat.le_trans h2 (Nat.le_trans h3 h4))
def prPairs : Pr := { A := Txt, ins := fun l => [vl l], pre := fun l => l.length < 60 ∧ ∀ c ∈ l, (occ l c).length = 2, res := fun l => rv (pairsV l), outs := fun _ => [] }
theorem scPairs : FnScope ["row", "found", "letter", "mate"] ["row"] (defScope sPairs) := ⟨rfl, rfl, rfl, by decide +kernel, rfl, by decide +kernel, by decide +kernel⟩
theorem ok_pairs {P : Program} {w : World} {K : PySem.W.Frag} {mg : Str → Option Value} {base : Heap} {f : Addr} {fd : FuncData} (F : Fun K "pairs_linked" "pairs_linked" sPairs f fd) (Fl : Fnc P w K mg base 1 "letters_in" ["row"] prLin) (Fm : Fnc P w K mg base 3 "mates_of" ["row", "letter"] prMates) : FnG P w K mg base CX0 4 f fd ["row"] prPairs.sp := by
  refine fn_ok F scPairs (fun _ => rfl) (fun _ => rfl) fun cdv A outer s0 H Ee fm (l : Txt) hpre => ?_
  obtain ⟨hl, ho⟩ := hpre
  let St : List Txt → List Wk.Slot := fun k => [vl (l : Txt), vl (k : List Txt), .no, .no]
  refine ⟨St (pairsV l), fun pc hpc => by simp [prPairs] at hpc, ?_⟩
  refine .ret (ρ := List Txt) (b := pairsV l) (g_cons (g1_asg (a := ([] : List Txt)) (sl2 := St []) (js := [1]) (EN.val fm (x_list (xs := ([] : List Txt)) a_nil (by decide))) (tg_name fm 1 rfl (fun _ => .inl rfl) (fun _ => .inr rfl))) (g_cons
    (g1_forN fm St [] (pairsV l) (fun x t => (St t).set 2 (vl x)) (fun k (t : Txt) => k ++ lnkV l (t.headD 0)) (fun i k => k.length ≤ 60 * i) (src_txt (l := ups l) ?_) (Wks.refl _) (Nat.zero_le _) rfl (fun x t => tg_name fm 2 rfl (fun _ => .inr rfl) (fun _ => .inl rfl)) (fun i k x hx inv => ?_))
    (g_end (g1_ret (x_var fm 1 rfl (fun _ => .inl rfl) rfl)))))
  · exact x_call fm Fl l (a_v (x_var fm 0 rfl (fun _ => .inl rfl) rfl) a_nil) hl ⟨rfl, trivial⟩ rfl (Nat.le_of_ble_eq_true rfl) (fun _ => rfl)
  · obtain ⟨c, hc, rfl⟩ := sgs_mem.1 (List.mem_of_getElem? hx)
    have hcl : c ∈ l := ups_mem.1 hc
    have hi : i < (ups l).length := by
      have y := (List.getElem?_eq_some_iff.mp hx).1
      simpa using y
    have hul := ups_len l
    have h1 := lnk_len l c
    have h2 : (onceV (inV l c)).length ≤ (ups (inV l c)).length := List.length_filter_le _ _
    have h3 := ups_len (inV l c)
    have h4 : (inV l c).length ≤ l.length := cut_le _ _ _
    refine ⟨⟨[vl (l : Txt), vl (k ++ lnkV l c : List Txt), vl ([c] : Txt), .no], .inl (g_one (g1_asg (a := (k ++ lnkV l c : List Txt)) (sl1 := [vl (l : Txt), vl (k : List Txt), vl ([c] : Txt), .no]) (js := [1]) (EN.val fm (x_cat fm (x_var (a := k) fm 1 rfl (fun _ => .inl rfl) rfl) (EN.val fm (x_lcN (y := "mate") 3 fm (xs := sgs (onceV (inV l c))) (fun t : Txt => decide ([c] < t)) (fun t => ([c] ++ t : Txt)) (src_txt (l := onceV (inV l c)) ?_) (fun _ => blkOk_by (N := ["row", "found", "letter", "mate"]) (sc := defScope sPairs) (by decide +kernel)) rfl (fun _ => .inl rfl) (fun _ => .inr rfl) rfl (by rw [sgs_len]; omega) (fun y hy => ⟨?_, fun _ => ?_⟩))) ?_)) (tg_name fm 1 rfl (fun _ => .inl rfl) (fun _ => .inr rfl)))), ?_⟩, ?_⟩
    · exact x_call fm Fm (l, c, iAt l c, jAt l c) (a_v (x_var fm 0 rfl (fun _ => .inl rfl) rfl) (a_v (x_var fm 2 rfl (fun _ => .inr (.inl rfl)) rfl) a_nil)) ⟨hl, occ_two (ho c hcl)⟩ ⟨rfl, rfl, trivial⟩ rfl (Nat.le_of_ble_eq_true rfl) (fun _ => rfl)
    · exact ti_one (t_ltT (fm.blk _) (x_var (fm.blk _) 2 rfl (fun _ => .inr (.inl rfl)) rfl) (x_var (fm.blk _) 3 rfl (fun _ => .inl rfl) rfl))
    · obtain ⟨d, _, rfl⟩ := sgs_mem.1 hy
      exact x_addS (fm.blk _) (i := ([c] : Txt)) (j := ([d] : Txt)) (x_var (fm.blk _) 2 rfl (fun _ => .inr (.inl rfl)) rfl) (x_var (fm.blk _) 3 rfl (fun _ => .inl rfl) rfl) (by show 1 + 1 ≤ 16777216; decide)
    · show k.length + (lnkV l c).length ≤ 16777216
      omega
    · exact ⟨.inl rfl, .inl rfl, .inr rfl, .inl rfl, trivial⟩
    · show (k ++ lnkV l c).length ≤ _
      rw [List.length_append]
      omega
abbrev sLinks : Stmt := topS 21
def prLinks : Pr := { A := Txt, ins := fun l => [vl l], pre := fun l => (l.length < 60 ∧ rowB l = true) ∧ ∀ c ∈ l, (occ l c).length = 2, res := fun l => rv (Tup.mk (pairsV l)), outs := fun _ => [] }
theorem scLinks : FnScope ["row"] ["row"] (defScope sLinks) := ⟨rfl, rfl, rfl, by decide +kernel, rfl, by decide +kernel, by decide +kernel⟩
theorem ok_links {P : Program} {w : World} {K : PySem.W.Frag} {mg : Str → Option Value} {base : Heap} {f : Addr} {fd : FuncData} (F : Fun K "links" "links" sLinks f fd) (Fc : Fnc P w K mg base 3 "check_row" ["value"] prCkRow) (Fp : Fnc P w K mg base 4 "pairs_linked" ["row"] prPairs) (m : mg "tuple" = none) : FnG P w K mg base CX0 5 f fd ["row"] prLinks.sp := by
  refine fn_ok F scLinks (fun _ => rfl) (fun _ => rfl) fun cdv A outer s0 H Ee fm (l : Txt) hpre => ?_
  refine ⟨[vl (l : Txt)], fun pc hpc => by simp [prLinks] at hpc, ?_⟩
  exact .ret (g_cons (g1_expr (a := ()) (x_call fm Fc l (a_v (x_var fm 0 rfl (fun _ => .inl rfl) rfl) a_nil) hpre.1 ⟨rfl, trivial⟩ rfl (Nat.le_of_ble_eq_true rfl) (fun _ => rfl))) (g_end (g1_ret (x_tupL (xs := pairsV l) fm (x_call fm Fp l (a_v (x_var fm 0 rfl (fun _ => .inl rfl) rfl) a_nil) ⟨hpre.1.1, hpre.2⟩ ⟨rfl, trivial⟩ rfl (Nat.le_refl 4) (fun _ => rfl)) (fun _ => rfl) m))))
abbrev sFresh : Stmt := topS 25
/-- the letters that a text lacks -/
def freshV (l : Txt) : Txt := abc.filter fun c => !decide (c ∈ l)
def prFresh : Pr := { A := Txt, ins := fun l => [vl l], pre := fun l => l.length < 60, res := fun l => rv (sgs (freshV l)), outs := fun _ => [] }
theorem scFresh : FnScope ["row", "sign"] ["row"] (defScope sFresh) := ⟨rfl, rfl, rfl, by decide +kernel, rfl, by decide +kernel, by decide +kernel⟩
theorem ok_fresh {P : Program} {w : World} {K : PySem.W.Frag} {mg : Str → Option Value} {base : Heap} {f : Addr} {fd : FuncData} (F : Fun K "fresh_letters" "fresh_letters" sFresh f fd) (m : ∃ t, mg "LETTERS" = some (.str (tx abc) t)) : FnG P w K mg base CX0 1 f fd ["row"] prFresh.sp := by
  refine fn_ok F scFresh (fun _ => rfl) (fun _ => rfl) fun cdv A outer s0 H Ee fm (l : Txt) hpre => ?_
  obtain ⟨tl, el⟩ := m
  refine ⟨[vl (l : Txt), .no], fun pc hpc => by simp [prFresh] at hpc, ?_⟩
  have e : sgs (freshV l) = ((sgs abc).filter fun t => !decide (t.headD 0 ∈ l)).map id := by
    rw [List.map_id, sgs_filter]
    rfl
  show BodyOk _ _ _ (rv (sgs (freshV l))) _
  rw [e]
  refine .ret (g_end (g1_ret (EN.val fm (x_lcN (y := "sign") 1 fm (xs := sgs abc) (fun t : Txt => !decide (t.headD 0 ∈ l)) id (src_txt (l := abc) (x_glob (x := "LETTERS") (a := abc) fm (v := .str (tx abc)) (fun _ => rfl) el ⟨tl, rfl⟩ (fun _ => rfl))) (fun _ => blkOk_by (N := ["row", "sign"]) (sc := defScope sFresh) (by decide +kernel)) rfl (fun _ => .inl rfl) (fun _ => .inr rfl) rfl (by decide) (fun y hy => ⟨?_, fun _ => ?_⟩)))))
  · obtain ⟨d, _, rfl⟩ := sgs_mem.1 hy
    exact ti_one (t_notInS (fm.blk _) (x_var (fm.blk _) 1 rfl (fun _ => .inl rfl) rfl) (x_var (fm.blk _) 0 rfl (fun _ => .inr (.inl rfl)) rfl))
  · exact x_var (fm.blk _) 1 rfl (fun _ => .inl rfl) rfl
abbrev sOrder : Stmt := topS 26
def prOrder : Pr := { A := Txt, ins := fun l => [vl l], pre := fun l => l.length < 60, res := fun l => rv (firsts l : Txt), outs := fun _ => [] }
theorem scOrder : FnScope ["row", "found", "sign"] ["row"] (defScope sOrder) := ⟨rfl, rfl, rfl, by decide +kernel, rfl, by decide +kernel, by decide +kernel⟩
theorem ok_order {P : Program} {w : World} {K : PySem.W.Frag} {mg : Str → Option Value} {base : Heap} {f : Addr} {fd : FuncData} (F : Fun K "in_order" "in_order" sOrder f fd) : FnG P w K mg base CX0 1 f fd ["row"] prOrder.sp := by
  refine fn_ok F scOrder (fun _ => rfl) (fun _ => rfl) fun cdv A outer s0 H Ee fm (l : Txt) hpre => ?_
  have hl : l.length < 60 := hpre
  let St : Txt → List Wk.Slot := fun k => [vl (l : Txt), vl (k : Txt), .no]
  refine ⟨St (firsts l), fun pc hpc => by simp [prOrder] at hpc, ?_⟩
  refine .ret (ρ := Txt) (b := (firsts l : Txt)) (g_cons (g1_asg (a := ([] : Txt)) (sl2 := St []) (js := [1]) (x_str fm []) (tg_name fm 1 rfl (fun _ => .inl rfl) (fun _ => .inr rfl))) (g_cons
    (g1_forN fm St [] (firsts l) (fun x t => (St t).set 2 (vl x)) stF (fun i k => k.length ≤ i) (src_txt (l := l) (x_var fm 0 rfl (fun _ => .inl rfl) rfl)) (Wks.refl _) (Nat.zero_le _) rfl (fun x t => tg_name fm 2 rfl (fun _ => .inl rfl) (fun _ => .inr rfl)) (fun i k x hx inv => ?_))
    (g_end (g1_ret (x_var fm 1 rfl (fun _ => .inl rfl) rfl)))))
  obtain ⟨c, hc, rfl⟩ := sgs_mem.1 (List.mem_of_getElem? hx)
  have hi : i < l.length := by
    have y := (List.getElem?_eq_some_iff.mp hx).1
    simpa using y
  refine ⟨⟨[vl (l : Txt), vl (stF k [c] : Txt), vl ([c] : Txt)], .inl (g_one (g1_asg (a := (stF k [c] : Txt)) (sl1 := [vl (l : Txt), vl (k : Txt), vl ([c] : Txt)]) (js := [1]) (x_if (c := decide (c ∈ k)) (t_inS fm (c := c) (j := k) (x_var fm 2 rfl (fun _ => .inl rfl) rfl) (x_var fm 1 rfl (fun _ => .inl rfl) rfl)) (fun h => ?_) (fun h => ?_)) (tg_name fm 1 rfl (fun _ => .inl rfl) (fun _ => .inr rfl)))), ?_⟩, ?_⟩
  · have e3 : stF k [c] = k := if_pos (of_decide_eq_true h)
    rw [e3]
    exact x_var fm 1 rfl (fun _ => .inl rfl) rfl
  · have e3 : stF k [c] = k ++ [c] := if_neg (of_decide_eq_false h)
    rw [e3]
    exact x_addS fm (i := (k : Txt)) (j := ([c] : Txt)) (x_var fm 1 rfl (fun _ => .inl rfl) rfl) (x_var fm 2 rfl (fun _ => .inl rfl) rfl) (by show k.length + 1 ≤ _; omega)
  · exact ⟨.inl rfl, .inl rfl, .inr rfl, trivial⟩
  · unfold stF
    split
    · omega
    · rw [List.length_append, List.length_singleton]
      omega
end Law

namespace Law
open PySem L2 Wk

/-! ### the law's helpers: _law_put, _law_letters, _law_is_linked, _law_pairs -/
abbrev sPut : Stmt := topS 36
def putV (l : Txt) (p : Int) (o : Txt) : Txt := (cutL l none (some p) ++ renV o (freshV l)) ++ cutL l (some p) none
def prPut : Pr := { A := Txt × Int × Txt, ins := fun a => [vl a.1, vl a.2.1, vl a.2.2], pre := fun a => a.1.length < 60 ∧ a.2.2.length < 60 ∧ (firsts a.2.2).length ≤ (freshV a.1).length, res := fun a => rv (putV a.1 a.2.1 a.2.2), outs := fun _ => [] }
theorem scPut : FnScope ["row", "at", "other", "menu", "sign"] ["row", "at", "other"] (defScope sPut) := ⟨rfl, rfl, rfl, by decide +kernel, rfl, by decide +kernel, by decide +kernel⟩
theorem fresh_len (l : Txt) : (freshV l).length ≤ 10 := List.length_filter_le _ _
theorem ren_len (o u : Txt) : (renV o u).length = o.length := List.length_map _
theorem ok_put {P : Program} {w : World} {K : PySem.W.Frag} {mg : Str → Option Value} {base : Heap} {f : Addr} {fd : FuncData} (F : Fun K "_law_put" "_law_put" sPut f fd) (Fr : Fnc P w K mg base 1 "_law_renamed" ["row", "menu"] prRenL) : FnG P w K mg base CX0 2 f fd ["row", "at", "other"] prPut.sp := by
  refine fn_ok F scPut (fun _ => rfl) (fun _ => rfl) fun cdv A outer s0 H Ee fm a hpre => ?_
  obtain ⟨l, p, o⟩ := a
  obtain ⟨hl, ho, hf⟩ := hpre
  dsimp only at hl ho hf
  have hfr := fresh_len l
  refine ⟨[vl (l : Txt), vl p, vl (o : Txt), vl (sgs (freshV l)), .no], fun pc hpc => by simp [prPut] at hpc, ?_⟩
  have e : sgs (freshV l) = ((sgs abc).filter fun t => !decide (t.headD 0 ∈ l)).map id := by
    rw [List.map_id, sgs_filter]
    rfl
  have c1 := cut_le l none (some p)
  have c2 := cut_le l (some p) none
  have c3 := ren_len o (freshV l)
  refine .ret (ρ := Txt) (b := putV l p o) (g_cons (g1_lcN (y := "sign") (sl1 := [vl (l : Txt), vl p, vl (o : Txt), .no, .no]) 3 4 fm (xs := sgs abc) (fun t : Txt => !decide (t.headD 0 ∈ l)) id rfl (fun _ => rfl) (src_txt (l := abc) (x_str fm abc)) (fun _ => blkOk_by (N := ["row", "at", "other", "menu", "sign"]) (sc := defScope sPut) (by decide +kernel)) rfl (fun _ => .inl rfl) (fun _ => .inr rfl) rfl (by decide) (fun y hy => ⟨?_, fun _ => ?_⟩))
    (g_frz 3 (xs := ((sgs abc).filter fun t => !decide (t.headD 0 ∈ l)).map id) rfl ?_))
  · obtain ⟨d, _, rfl⟩ := sgs_mem.1 hy
    exact ti_one (t_notInS (fm.blk _) (x_var (fm.blk _) 4 rfl (fun _ => .inl rfl) rfl) (x_var (fm.blk _) 0 rfl (fun _ => .inr (.inl rfl)) rfl))
  · exact x_var (fm.blk _) 4 rfl (fun _ => .inl rfl) rfl
  · rw [← e]
    show G _ _ [vl (l : Txt), vl p, vl (o : Txt), vl (sgs (freshV l)), .no] _
    refine g_end (g1_ret (x_addS fm (x_addS fm (x_slS (l := l) (x_var fm 0 rfl (fun _ => .inr (.inl rfl)) rfl) o_none (o_some (x_var fm 1 rfl (fun _ => .inl rfl) rfl)) (by omega)) ?_ (by omega)) (x_slS (l := l) (x_var fm 0 rfl (fun _ => .inr (.inl rfl)) rfl) (o_some (x_var fm 1 rfl (fun _ => .inl rfl) rfl)) o_none (by omega)) (by rw [List.length_append]; omega)))
    exact x_call fm Fr (o, freshV l) (a_v (x_var fm 2 rfl (fun _ => .inl rfl) rfl) (a_v (x_var fm 3 rfl (fun _ => .inl rfl) rfl) a_nil)) ⟨ho, by show (freshV l).length < 60; omega, hf⟩ ⟨rfl, rfl, trivial⟩ rfl (Nat.le_refl 1) (fun _ => rfl)
abbrev sIsLk : Stmt := topS 40
def toldV (l : Txt) (c d : Nat) : Txt := l.filter fun e => decide (e ∈ [c] ++ [d])
def lkB (l : Txt) (c d : Nat) : Bool := decide (toldV l c d ∈ [[c] ++ [d] ++ [c] ++ [d], [d] ++ [c] ++ [d] ++ [c]])
def prIsLk : Pr := { A := Txt × Nat × Nat, ins := fun a => [vl a.1, vl ([a.2.1] : Txt), vl ([a.2.2] : Txt)], pre := fun a => a.1.length < 60, res := fun a => rv (lkB a.1 a.2.1 a.2.2), outs := fun _ => [] }
theorem scIsLk : FnScope ["row", "one", "other", "told", "sign"] ["row", "one", "other"] (defScope sIsLk) := ⟨rfl, rfl, rfl, by decide +kernel, rfl, by decide +kernel, by decide +kernel⟩
theorem ok_islk {P : Program} {w : World} {K : PySem.W.Frag} {mg : Str → Option Value} {base : Heap} {f : Addr} {fd : FuncData} (F : Fun K "_law_is_linked" "_law_is_linked" sIsLk f fd) : FnG P w K mg base CX0 1 f fd ["row", "one", "other"] prIsLk.sp := by
  refine fn_ok F scIsLk (fun _ => rfl) (fun _ => rfl) fun cdv A outer s0 H Ee fm a hpre => ?_
  obtain ⟨l, c, d⟩ := a
  have hl : l.length < 60 := hpre
  refine ⟨[vl (l : Txt), vl ([c] : Txt), vl ([d] : Txt), vl (toldV l c d), .no], fun pc hpc => by simp [prIsLk] at hpc, ?_⟩
  have e : toldV l c d = (((sgs l).filter fun t => decide (t.headD 0 ∈ [c] ++ [d])).map id).flatten := by
    rw [List.map_id, sgs_filter, sgs_flat]
    rfl
  refine .ret (ρ := Bool) (b := lkB l c d) (g_cons (g1_asg (a := (toldV l c d : Txt)) (sl1 := [vl (l : Txt), vl ([c] : Txt), vl ([d] : Txt), .no, .no]) (sl2 := [vl (l : Txt), vl ([c] : Txt), vl ([d] : Txt), vl (toldV l c d), .no]) (js := [3]) ?_ (tg_name fm 3 rfl (fun _ => .inl rfl) (fun _ => .inr rfl))) (g_end (g1_ret (x_inLT fm (x_var fm 3 rfl (fun _ => .inl rfl) rfl) (EN.val fm (x_list (xs := ([[c] ++ [d] ++ [c] ++ [d], [d] ++ [c] ++ [d] ++ [c]] : List Txt)) (a_v (sl1 := [vl (l : Txt), vl ([c] : Txt), vl ([d] : Txt), vl (toldV l c d), .no]) ?_ (a_v ?_ a_nil)) (by show 2 ≤ 16777216; decide)))))))
  · rw [e]
    refine x_join0 fm (x_str fm []) (EN.val fm (x_lcN (y := "sign") 4 fm (xs := sgs l) (fun t : Txt => decide (t.headD 0 ∈ [c] ++ [d])) id (src_txt (l := l) (x_var fm 0 rfl (fun _ => .inl rfl) rfl)) (fun _ => blkOk_by (N := ["row", "one", "other", "told", "sign"]) (sc := defScope sIsLk) (by decide +kernel)) rfl (fun _ => .inl rfl) (fun _ => .inr rfl) rfl (by rw [sgs_len]; omega) (fun y hy => ⟨?_, fun _ => ?_⟩))) ?_
    · obtain ⟨z, _, rfl⟩ := sgs_mem.1 hy
      exact ti_one (t_inS (fm.blk _) (x_var (fm.blk _) 4 rfl (fun _ => .inl rfl) rfl) (x_addS (fm.blk _) (i := ([c] : Txt)) (j := ([d] : Txt)) (x_var (fm.blk _) 1 rfl (fun _ => .inr (.inl rfl)) rfl) (x_var (fm.blk _) 2 rfl (fun _ => .inr (.inl rfl)) rfl) (by show 1 + 1 ≤ 16777216; decide)))
    · exact x_var (fm.blk _) 4 rfl (fun _ => .inl rfl) rfl
    · rw [List.map_id, sgs_filter, sgs_sum]
      have := List.length_filter_le (fun e => decide (([e] : Txt).headD 0 ∈ [c] ++ [d])) l
      omega
  · exact x_addS fm (i := ([c] ++ [d] ++ [c] : Txt)) (j := ([d] : Txt)) (x_addS fm (i := ([c] ++ [d] : Txt)) (j := ([c] : Txt)) (x_addS fm (i := ([c] : Txt)) (j := ([d] : Txt)) (x_var fm 1 rfl (fun _ => .inr (.inl rfl)) rfl) (x_var fm 2 rfl (fun _ => .inr (.inl rfl)) rfl) (by show 1 + 1 ≤ 16777216; decide)) (x_var fm 1 rfl (fun _ => .inr (.inl rfl)) rfl) (by show 2 + 1 ≤ 16777216; decide)) (x_var fm 2 rfl (fun _ => .inr (.inl rfl)) rfl) (by show 3 + 1 ≤ 16777216; decide)
  · exact x_addS fm (i := ([d] ++ [c] ++ [d] : Txt)) (j := ([c] : Txt)) (x_addS fm (i := ([d] ++ [c] : Txt)) (j := ([d] : Txt)) (x_addS fm (i := ([d] : Txt)) (j := ([c] : Txt)) (x_var fm 2 rfl (fun _ => .inr (.inl rfl)) rfl) (x_var fm 1 rfl (fun _ => .inr (.inl rfl)) rfl) (by show 1 + 1 ≤ 16777216; decide)) (x_var fm 2 rfl (fun _ => .inr (.inl rfl)) rfl) (by show 2 + 1 ≤ 16777216; decide)) (x_var fm 1 rfl (fun _ => .inr (.inl rfl)) rfl) (by show 3 + 1 ≤ 16777216; decide)
end Law

namespace Law
open PySem L2 Wk

/-! ### _law_letters, _law_pairs -/
abbrev sLl : Stmt := topS 39
def prLl : Pr := { A := Txt, ins := fun l => [vl l], pre := fun l => l.length < 60, res := fun l => rn (sgs (ups l)), outs := fun _ => [] }
theorem scLl : FnScope ["row", "sign"] ["row"] (defScope sLl) := ⟨rfl, rfl, rfl, by decide +kernel, rfl, by decide +kernel, by decide +kernel⟩
theorem ok_ll {P : Program} {w : World} {K : PySem.W.Frag} {mg : Str → Option Value} {base : Heap} {f : Addr} {fd : FuncData} (F : Fun K "_law_letters" "_law_letters" sLl f fd) (m : Bare mg) : FnG P w K mg base CX0 1 f fd ["row"] prLl.sp := by
  refine fn_ok F scLl (fun _ => rfl) (fun _ => rfl) fun cdv A outer s0 H Ee fm (l : Txt) hpre => ?_
  have hl : l.length < 60 := hpre
  refine ⟨[vl (l : Txt), .no], fun pc hpc => by simp [prLl] at hpc, ?_⟩
  let xs : List (Txt × Bool) := (sgs l).map fun t => (t, true)
  have hlen : xs.length = l.length := by
    show ((sgs l).map _).length = _
    rw [List.length_map, sgs_len]
  obtain ⟨k1, k2⟩ := mergeK_keys (kvOf xs) [] List.nodup_nil
  refine .new (g_end (g1_retN ((x_sortedD (kvs := mergeK [] (kvOf xs)) (l := l) fm (x_dictP (xs := xs) fm (EN.val fm (x_lcNM (y := "sign") 1 fm (xs := sgs l) (fun t : Txt => (t, true)) (src_txt (l := l) (x_var fm 0 rfl (fun _ => .inl rfl) rfl)) (fun _ => blkOk_by (N := ["row", "sign"]) (sc := defScope sLl) (by decide +kernel)) rfl (fun _ => .inl rfl) (fun _ => .inr rfl) rfl (by rw [sgs_len]; omega) (fun x hx => x_pair (a_v (x_var (fm.blk _) 1 rfl (fun _ => .inl rfl) rfl) (a_v (x_bool (fm.blk _)) a_nil)))))
    (fun _ => rfl) m.dict) k1 (fun k => ?_) ?_ (fun _ => rfl) m.sorted))))
  · rw [k2 k]
    have e : k ∈ (kvOf xs).map (·.1) ↔ ∃ c ∈ l, k = Sum.inr (tx [c]) := by
      unfold kvOf
      rw [List.map_map, List.mem_map]
      constructor
      · rintro ⟨q, hq, rfl⟩
        obtain ⟨t, ht, rfl⟩ := List.mem_map.mp hq
        obtain ⟨c, hc, rfl⟩ := sgs_mem.1 ht
        exact ⟨c, hc, rfl⟩
      · rintro ⟨c, hc, rfl⟩
        exact ⟨([c], true), List.mem_map.mpr ⟨[c], sgs_mem.2 ⟨c, hc, rfl⟩, rfl⟩, rfl⟩
    rw [← e]
    exact ⟨fun y => y.elim (fun y => by cases y) id, .inr⟩
  · have h1 := length_mergeK (kvOf xs) []
    have h2 : (kvOf xs).length = xs.length := List.length_map _
    simp only [List.length_nil] at h1
    omega


abbrev sLp : Stmt := topS 41
/-- a letter's pairs -/
def lpV (l : Txt) (c : Nat) : List Txt := ((sgs (ups l)).filter fun t => decide ([c] < t) && lkB l c (t.headD 0)).map fun t => [c] ++ t
def lpsV (l : Txt) : List Txt := (sgs (ups l)).foldl (fun k t => k ++ lpV l (t.headD 0)) []
theorem lp_len (l : Txt) (c : Nat) : (lpV l c).length ≤ l.length := by
  unfold lpV
  rw [List.length_map]
  have h1 := List.length_filter_le (fun t : Txt => decide ([c] < t) && lkB l c (t.headD 0)) (sgs (ups l))
  rw [sgs_len] at h1
  exact Nat.le_trans h1 (ups_len l)
def prLp : Pr := { A := Txt, ins := fun l => [vl l], pre := fun l => l.length < 60, res := fun l => rn (lpsV l), outs := fun _ => [] }
theorem scLp : FnScope ["row", "names", "found", "one", "two"] ["row"] (defScope sLp) := ⟨rfl, rfl, rfl, by decide +kernel, rfl, by decide +kernel, by decide +kernel⟩
theorem ok_lp {P : Program} {w : World} {K : PySem.W.Frag} {mg : Str → Option Value} {base : Heap} {f : Addr} {fd : FuncData} (F : Fun K "_law_pairs" "_law_pairs" sLp f fd) (Fl : Fnc P w K mg base 1 "_law_letters" ["row"] prLl) (Fk : Fnc P w K mg base 1 "_law_is_linked" ["row", "one", "other"] prIsLk) : FnG P w K mg base CX0 2 f fd ["row"] prLp.sp := by
  refine fn_ok F scLp (fun _ => rfl) (fun _ => rfl) fun cdv A outer s0 H Ee fm (l : Txt) hpre => ?_
  have hl : l.length < 60 := hpre
  let St : List Txt → List Wk.Slot := fun k => [vl (l : Txt), vl (sgs (ups l)), .own (cl k), .no, .no]
  refine ⟨(St (lpsV l)).set 2 .no, fun pc hpc => by simp [prLp] at hpc, ?_⟩
  refine .new (g_cons (g1_par2 (c := cl (sgs (ups l))) (d := cl ([] : List Txt)) (sl1 := [vl (l : Txt), .no, .no, .no, .no]) fm 1 2 ?_ (x_list (xs := ([] : List Txt)) a_nil (by decide)) rfl rfl (by decide) (fun _ => rfl) (fun _ => rfl)) (g_frz 1 (xs := sgs (ups l)) rfl (g_cons
    (g1_forN fm St [] (lpsV l) (fun x t => (St t).set 3 (vl x)) (fun k (t : Txt) => k ++ lpV l (t.headD 0)) (fun i k => k.length ≤ 60 * i) (src_list (xs := sgs (ups l)) fm (x_var fm 1 rfl (fun _ => .inl rfl) rfl)) (Wks.refl _) (Nat.zero_le _) rfl (fun x t => tg_name fm 3 rfl (fun _ => .inr rfl) (fun _ => .inl rfl)) (fun i k x hx inv => ?_))
    (g_end (g1_retO fm 2 rfl (fun _ => .inl rfl) rfl)))))
  · exact x_callN fm Fl l (a_v (x_var fm 0 rfl (fun _ => .inr (.inl rfl)) rfl) a_nil) hl ⟨rfl, trivial⟩ rfl (Nat.le_refl 1) (fun _ => rfl)
  · obtain ⟨c, hc, rfl⟩ := sgs_mem.1 (List.mem_of_getElem? hx)
    have hi : i < (ups l).length := by
      have y := (List.getElem?_eq_some_iff.mp hx).1
      rwa [sgs_len] at y
    have hul := ups_len l
    have h1 := lp_len l c
    refine ⟨⟨[vl (l : Txt), vl (sgs (ups l)), .own (cl (k ++ lpV l c)), vl ([c] : Txt), .no], .inl (g_one (g1_expr (x_ext (xs0 := k) (xs := k) (ys := lpV l c) (sl1 := [vl (l : Txt), vl (sgs (ups l)), .own (cl k), vl ([c] : Txt), .no]) fm 2 rfl (fun _ => .inl rfl) ?_ (.inl rfl) (.inl rfl) (by omega)))), ?_⟩, ?_⟩
    · refine EN.val fm (x_lcN (y := "two") 4 fm (xs := sgs (ups l)) (fun t : Txt => decide ([c] < t) && lkB l c (t.headD 0)) (fun t => ([c] ++ t : Txt)) (src_list (xs := sgs (ups l)) fm (x_var fm 1 rfl (fun _ => .inl rfl) rfl)) (fun _ => blkOk_by (N := ["row", "names", "found", "one", "two"]) (sc := defScope sLp) (by decide +kernel)) rfl (fun _ => .inl rfl) (fun _ => .inr rfl) rfl (by rw [sgs_len]; omega) (fun y hy => ?_))
      obtain ⟨d, _, rfl⟩ := sgs_mem.1 hy
      refine ⟨ti_one (Ts.t (ts_and (t_ltT (fm.blk _) (x_var (fm.blk _) 3 rfl (fun _ => .inr (.inl rfl)) rfl) (x_var (fm.blk _) 4 rfl (fun _ => .inl rfl) rfl)) fun _ => ts_and1 (E.tst (fm.blk _) ?_))), fun _ => x_addS (fm.blk _) (i := ([c] : Txt)) (j := ([d] : Txt)) (x_var (fm.blk _) 3 rfl (fun _ => .inr (.inl rfl)) rfl) (x_var (fm.blk _) 4 rfl (fun _ => .inl rfl) rfl) (by show 1 + 1 ≤ 16777216; decide)⟩
      exact x_call (fm.blk _) Fk (l, c, d) (a_v (x_var (fm.blk _) 0 rfl (fun _ => .inr (.inl rfl)) rfl) (a_v (x_var (fm.blk _) 3 rfl (fun _ => .inr (.inl rfl)) rfl) (a_v (x_var (fm.blk _) 4 rfl (fun _ => .inl rfl) rfl) a_nil))) hl ⟨rfl, rfl, rfl, trivial⟩ rfl (Nat.le_refl 1) (fun _ => rfl)
    · exact ⟨.inl rfl, .inl rfl, .inl rfl, .inr rfl, .inl rfl, trivial⟩
    · show (k ++ lpV l c).length ≤ _
      rw [List.length_append]
      omega

/-! ### _law_ways, _law_plain -/
def rotsV (w : Txt) (n : Nat) : List Txt := ((List.range n).map fun k : Nat => (k : Int)).map fun p => cutL w (some p) none ++ cutL w none (some p)
def waysV (l : Txt) : List Txt := [l, l.reverse].foldl (fun k w => k ++ rotsV w l.length) []
theorem rots_len (w : Txt) (n : Nat) : (rotsV w n).length = n := by simp [rotsV]
def prWays : Pr := { A := Txt, ins := fun l => [vl l], pre := fun l => l.length < 60, res := fun l => rn (waysV l), outs := fun _ => [] }
end Law

namespace Law
open PySem L2 Wk
def plainV (l : Txt) : Txt := leastT ((waysV l).map fun w => renV w abc)
theorem ways_mem {l w : Txt} (h : w ∈ waysV l) : ∃ (v : Txt) (p : Int), (v = l ∨ v = l.reverse) ∧ w = cutL v (some p) none ++ cutL v none (some p) := by
  have h' : w ∈ ([] ++ rotsV l l.length) ++ rotsV l.reverse l.length := h
  rw [List.nil_append, List.mem_append] at h'
  rcases h' with h' | h'
  · obtain ⟨p, _, rfl⟩ := List.mem_map.mp h'
    exact ⟨l, p, .inl rfl, rfl⟩
  · obtain ⟨p, _, rfl⟩ := List.mem_map.mp h'
    exact ⟨l.reverse, p, .inr rfl, rfl⟩
theorem ways_len (l : Txt) : (waysV l).length = l.length + l.length := by
  show (([] ++ rotsV l l.length) ++ rotsV l.reverse l.length).length = _
  rw [List.nil_append, List.length_append, rots_len, rots_len]
def prPlain : Pr := { A := Txt, ins := fun l => [vl l], pre := fun l => l.length < 60 ∧ l ≠ [] ∧ ∀ w ∈ waysV l, w.length < 60 ∧ (firsts w).length ≤ 10, res := fun l => rv (plainV l), outs := fun _ => [] }
end Law

namespace Law
open PySem L2 Wk

/-! ### put_in -/
theorem prs_mergeL {a b : Txt} (h : a.Nodup) (hl : a.length ≤ b.length) : mergeK [] (prsTx a b) = prsTx a b := by
  refine mergeK_id (prsTx a b) [] ?_
  rw [List.nil_append]
  unfold prsTx
  rw [List.map_map]
  have e : ((a.zip b).map (fun q : Nat × Nat => (Sum.inr (tx [q.1]) : Key))) = ((a.zip b).map Prod.fst).map fun c => (Sum.inr (tx [c]) : Key) := by rw [List.map_map]; rfl
  show ((a.zip b).map (fun q : Nat × Nat => (Sum.inr (tx [q.1]) : Key))).Nodup
  rw [e]
  rw [List.map_fst_zip hl]
  refine List.pairwise_map.mpr (List.Pairwise.imp (fun hne e => hne ?_) h)
  have := tx_inj (Sum.inr.inj e)
  simpa using this
abbrev sPutIn : Stmt := topS 27
def prPutIn : Pr := { A := Txt × Int × Txt, ins := fun a => [vl a.1, vl a.2.1, vl a.2.2], pre := fun a => (a.1.length < 60 ∧ rowB a.1 = true) ∧ (0 ≤ a.2.1 ∧ a.2.1 < a.1.length) ∧ (a.2.2.length < 60 ∧ rowB a.2.2 = true) ∧ a.1.length + a.2.2.length ≤ 20 ∧ (firsts a.2.2).length ≤ (freshV a.1).length, res := fun a => rv (putV a.1 a.2.1 a.2.2), outs := fun _ => [] }
theorem scPutIn : FnScope ["row", "place", "other", "given", "sign"] ["row", "place", "other"] (defScope sPutIn) := ⟨rfl, rfl, rfl, by decide +kernel, rfl, by decide +kernel, by decide +kernel⟩
theorem ok_putin {P : Program} {w : World} {K : PySem.W.Frag} {mg : Str → Option Value} {base : Heap} {f : Addr} {fd : FuncData} (F : Fun K "put_in" "put_in" sPutIn f fd) (Fc : Fnc P w K mg base 3 "check_row" ["value"] prCkRow) (Fp : Fnc P w K mg base 3 "check_place" ["row", "value"] prCkPl) (Fr : Fnc P w K mg base 2 "is_row" ["value"] prIsRow) (Fo : Fnc P w K mg base 1 "in_order" ["row"] prOrder) (Ff : Fnc P w K mg base 1 "fresh_letters" ["row"] prFresh) (m : Bare mg) : FnG P w K mg base CX0 4 f fd ["row", "place", "other"] prPutIn.sp := by
  refine fn_ok F scPutIn (fun _ => rfl) (fun _ => rfl) fun cdv A outer s0 H Ee fm a hpre => ?_
  obtain ⟨l, p, o⟩ := a
  obtain ⟨h1, ⟨h2, h3⟩, h4, h5, h6⟩ := hpre
  dsimp only at h1 h2 h3 h4 h5 h6
  obtain ⟨tm, em⟩ := m.most
  have hfl := sub_len (firsts_nodup o) (u := o) fun c hc => firsts_mem.1 hc
  refine ⟨[vl (l : Txt), vl p, vl (o : Txt), .own (cdk (prsTx (firsts o) (freshV l))), .no], fun pc hpc => by simp [prPutIn] at hpc, ?_⟩
  have e2 : ((sgs o).map fun t => ([swp (firsts o) (freshV l) (t.headD 0)] : Txt)) = sgs (renV o (freshV l)) := by
    unfold sgs renV
    rw [List.map_map, List.map_map]
    rfl
  have c1 := cut_le l none (some p)
  have c2 := cut_le l (some p) none
  have c3 := ren_len o (freshV l)
  let S0 : List Wk.Slot := [vl (l : Txt), vl p, vl (o : Txt), .no, .no]
  refine .ret (ρ := Txt) (b := putV l p o) (g_cons (g1_expr (a := ()) (sl1 := S0) (x_call fm Fc l (a_v (x_var fm 0 rfl (fun _ => .inl rfl) rfl) a_nil) h1 ⟨rfl, trivial⟩ rfl (Nat.le_refl 3) (fun _ => rfl)))
    (g_cons (g1_expr (a := ()) (sl1 := S0) (x_call fm Fp (l, p) (a_v (x_var fm 0 rfl (fun _ => .inl rfl) rfl) (a_v (x_var fm 1 rfl (fun _ => .inl rfl) rfl) a_nil)) ⟨h1.1, h2, h3⟩ ⟨rfl, rfl, trivial⟩ rfl (Nat.le_refl 3) (fun _ => rfl)))
    (g_no (sl1 := S0) (T.is (t_not fm (E.tst fm (x_call fm Fr o (a_v (x_var fm 2 rfl (fun _ => .inl rfl) rfl) a_nil) h4.1 ⟨rfl, trivial⟩ rfl (Nat.le_of_ble_eq_true rfl) (fun _ => rfl)))) (by rw [h4.2]; rfl))
    (g_no (sl1 := S0) (T.is (t_gt fm (x_add fm (x_lenS (l := l) fm (x_var fm 0 rfl (fun _ => .inl rfl) rfl) (by omega) (fun _ => rfl) m.len) (x_lenS (l := o) fm (x_var fm 2 rfl (fun _ => .inl rfl) rfl) (by omega) (fun _ => rfl) m.len)) (x_mul (i := 2) (j := 10) fm (x_int fm) (x_glob (x := "MOST_LETTERS") fm (v := .int 10) (fun _ => rfl) em ⟨tm, rfl⟩ (fun _ => rfl)) (.inl (by decide)))) (decide_eq_false (by omega)))
    (g_cons (g1_own (c := cdk (prsTx (firsts o) (freshV l))) (sl1 := S0) fm 3 ?_ rfl (fun _ => .inr rfl) (fun _ => .inl rfl)) (g_end (g1_ret (x_addS fm (x_addS fm (x_slS (l := l) (x_var fm 0 rfl (fun _ => .inl rfl) rfl) o_none (o_some (x_var fm 1 rfl (fun _ => .inl rfl) rfl)) (by omega)) (j := renV o (freshV l)) ?_ (by omega)) (x_slS (l := l) (x_var fm 0 rfl (fun _ => .inl rfl) rfl) (o_some (x_var fm 1 rfl (fun _ => .inl rfl) rfl)) o_none (by omega)) (by rw [List.length_append]; omega)))))))))
  · rw [← prs_mergeL (firsts_nodup o) h6]
    exact x_dzL (c := freshV l) fm (x_call fm Fo o (a_v (x_var fm 2 rfl (fun _ => .inl rfl) rfl) a_nil) h4.1 ⟨rfl, trivial⟩ rfl (Nat.le_of_ble_eq_true rfl) (fun _ => rfl)) (x_call fm Ff l (a_v (x_var fm 0 rfl (fun _ => .inl rfl) rfl) a_nil) h1.1 ⟨rfl, trivial⟩ rfl (Nat.le_of_ble_eq_true rfl) (fun _ => rfl)) rfl h6 (by omega) (fun _ => rfl) m.dict (fun _ => rfl) m.zip
  · have e3 : renV o (freshV l) = ((sgs o).map fun t => ([swp (firsts o) (freshV l) (t.headD 0)] : Txt)).flatten := by
      rw [e2, sgs_flat]
    rw [e3]
    refine x_join0 fm (x_str fm []) (EN.val fm (x_lcNM (y := "sign") 4 fm (xs := sgs o) (fun t : Txt => ([swp (firsts o) (freshV l) (t.headD 0)] : Txt)) (src_txt (l := o) (x_var fm 2 rfl (fun _ => .inl rfl) rfl)) (fun _ => blkOk_by (N := ["row", "place", "other", "given", "sign"]) (sc := defScope sPutIn) (by decide +kernel)) rfl (fun _ => .inl rfl) (fun _ => .inr rfl) rfl (by rw [sgs_len]; omega) (fun x hx => ?_))) (by rw [e2, sgs_sum]; omega)
    obtain ⟨c, hc, rfl⟩ := sgs_mem.1 hx
    exact x_dget (b := ([swp (firsts o) (freshV l) c] : Txt)) (fm.blk _) 3 rfl (fun _ => .inr (.inl rfl)) (x_var (a := ([c] : Txt)) (fm.blk _) 4 rfl (fun _ => .inl rfl) rfl) (.inl rfl) (.inl rfl) (prs_getL (firsts_mem.2 hc) h6) (fun _ => rfl)
end Law

namespace Law
open PySem L2 Wk

/-! ### plain: renaming -/
/-- f tells the signs of a list apart -/
def Inj (f : Nat → Nat) (l : Txt) : Prop := ∀ c ∈ l, ∀ d ∈ l, f c = f d → c = d
theorem foldl_map {f : Nat → Nat} : ∀ {l k : Txt}, Inj f (k ++ l) → (sgs (l.map f)).foldl stF (k.map f) = ((sgs l).foldl stF k).map f
  | [], _, _ => rfl
  | c :: l, k, h => by
    have e : stF (k.map f) [f c] = (stF k [c]).map f := by
      unfold stF
      show (if f c ∈ k.map f then _ else _) = _
      by_cases hc : c ∈ k
      · rw [if_pos (List.mem_map.mpr ⟨c, hc, rfl⟩), if_pos (show ([c] : Txt).headD 0 ∈ k from hc)]
      · rw [if_neg, if_neg (show ¬ ([c] : Txt).headD 0 ∈ k from hc), List.map_append]
        · rfl
        · intro y
          obtain ⟨d, hd, ed⟩ := List.mem_map.mp y
          have := h d (by simp [hd]) c (by simp) ed
          exact hc (this ▸ hd)
    show (sgs (l.map f)).foldl stF (stF (k.map f) [f c]) = ((sgs l).foldl stF (stF k [c])).map f
    rw [e]
    refine foldl_map fun a ha b hb => h a ?_ b ?_
    · rw [List.mem_append, stF_mem] at ha
      simpa [or_assoc] using ha
    · rw [List.mem_append, stF_mem] at hb
      simpa [or_assoc] using hb
theorem firsts_map {f : Nat → Nat} {l : Txt} (h : Inj f l) : firsts (l.map f) = (firsts l).map f := foldl_map (k := []) (by simpa using h)
theorem swp_map {f : Nat → Nat} {c : Nat} : ∀ {a u : Txt}, c ∈ a → Inj f a → swp (a.map f) u (f c) = swp a u c
  | [], _, h, _ => by cases h
  | d :: a, [], _, _ => rfl
  | d :: a, e :: u, h, hi => by
    by_cases hd : d = c
    · subst hd
      simp [swp]
    · have hf : ¬ f d = f c := fun y => hd (hi d (by simp) c h y)
      have hc : c ∈ a := (List.mem_cons.mp h).resolve_left fun y => hd y.symm
      have y := swp_map (f := f) (c := c) (a := a) (u := u) hc fun x hx z hz => hi x (by simp [hx]) z (by simp [hz])
      unfold swp at y ⊢
      simpa [hd, hf] using y
theorem renV_map {f : Nat → Nat} {l u : Txt} (h : Inj f l) : renV (l.map f) u = renV l u := by
  unfold renV
  rw [firsts_map h, List.map_map]
  refine List.map_congr_left fun c hc => swp_map (firsts_mem.2 hc) fun a ha b hb => h a (firsts_mem.1 ha) b (firsts_mem.1 hb)
theorem cutL_map {f : Nat → Nat} {l : Txt} {a b : Option Int} : cutL (l.map f) a b = (cutL l a b).map f := by
  unfold cutL
  simp [List.map_take, List.map_drop]
theorem cut_mem {l : Txt} {a b : Option Int} {c : Nat} (h : c ∈ cutL l a b) : c ∈ l := by
  unfold cutL at h
  exact List.mem_of_mem_drop (List.mem_of_mem_take h)
theorem rots_map {f : Nat → Nat} {l : Txt} {n : Nat} : rotsV (l.map f) n = (rotsV l n).map (·.map f) := by
  simp only [rotsV, List.map_map]
  refine List.map_congr_left fun k _ => ?_
  show cutL (l.map f) (some (k : Int)) none ++ cutL (l.map f) none (some (k : Int)) = (cutL l (some (k : Int)) none ++ cutL l none (some (k : Int))).map f
  rw [cutL_map, cutL_map, List.map_append]
theorem ways_eq (l : Txt) : waysV l = rotsV l l.length ++ rotsV l.reverse l.length := by
  show ([] ++ rotsV l l.length) ++ rotsV l.reverse l.length = _
  rw [List.nil_append]
theorem ways_map {f : Nat → Nat} {l : Txt} : waysV (l.map f) = (waysV l).map (·.map f) := by
  rw [ways_eq, ways_eq, List.map_append, List.length_map, rots_map, ← List.map_reverse, rots_map]
theorem ways_sub {l w : Txt} (h : w ∈ waysV l) {c : Nat} (hc : c ∈ w) : c ∈ l := by
  obtain ⟨v, p, hv, rfl⟩ := ways_mem h
  have : c ∈ v := by
    rcases List.mem_append.mp hc with y | y
    · exact cut_mem y
    · exact cut_mem y
  rcases hv with rfl | rfl
  · exact this
  · exact List.mem_reverse.mp this
theorem plain_map {f : Nat → Nat} {l : Txt} (h : Inj f l) : plainV (l.map f) = plainV l := by
  unfold plainV
  rw [ways_map, List.map_map]
  refine congrArg leastT (List.map_congr_left fun w hw => ?_)
  exact renV_map fun a ha b hb => h a (ways_sub hw ha) b (ways_sub hw hb)
end Law

namespace Law
open PySem L2 Wk

/-! ### plain: what is put in -/
theorem cut_to {α : Type} {l : List α} {n : Nat} (h : n ≤ l.length) : cutL l none (some (n : Int)) = l.take n := by
  unfold cutL
  have e1 : HT.sIx l.length 0 none = 0 := rfl
  have e2 : HT.sIx l.length l.length (some (n : Int)) = n := by
    unfold HT.sIx
    simp only
    rw [if_neg (by omega)]
    omega
  rw [e1, e2]
  simp
theorem cut_from {α : Type} {l : List α} {n : Nat} (h : n ≤ l.length) : cutL l (some (n : Int)) none = l.drop n := by
  unfold cutL
  have e1 : HT.sIx l.length 0 (some (n : Int)) = n := by
    unfold HT.sIx
    simp only
    rw [if_neg (by omega)]
    omega
  have e2 : HT.sIx l.length l.length none = l.length := rfl
  rw [e1, e2]
  exact List.take_of_length_le (by rw [List.length_drop]; exact Nat.le_refl _)
theorem swp_cons {d e : Nat} {a u : Txt} {c : Nat} : swp (d :: a) (e :: u) c = if d = c then e else swp a u c := by
  unfold swp
  by_cases h : d = c <;> simp [h]
theorem swp_mem : ∀ {a u : Txt} {c : Nat}, c ∈ a → a.length ≤ u.length → swp a u c ∈ u
  | d :: a, e :: u, c, h, hl => by
    rw [swp_cons]
    split
    · simp
    · rename_i hd
      refine List.mem_cons_of_mem _ (swp_mem ((List.mem_cons.mp h).resolve_left fun y => hd y.symm) ?_)
      simpa using hl
theorem swp_inj : ∀ {a u : Txt}, u.Nodup → a.length ≤ u.length → Inj (swp a u) a
  | [], _, _, _ => fun c h => by cases h
  | d :: a, e :: u, hu, hl => by
    obtain ⟨hn, hu'⟩ := List.nodup_cons.mp hu
    have hl' : a.length ≤ u.length := by simpa using hl
    intro x hx y hy
    rw [swp_cons, swp_cons]
    by_cases h1 : d = x <;> by_cases h2 : d = y
    · intro _
      rw [← h1, ← h2]
    · rw [if_pos h1, if_neg h2]
      intro z
      exact absurd (z ▸ swp_mem ((List.mem_cons.mp hy).resolve_left fun w => h2 w.symm) hl') hn
    · rw [if_neg h1, if_pos h2]
      intro z
      exact absurd (z ▸ swp_mem ((List.mem_cons.mp hx).resolve_left fun w => h1 w.symm) hl') hn
    · rw [if_neg h1, if_neg h2]
      exact swp_inj hu' hl' x ((List.mem_cons.mp hx).resolve_left fun w => h1 w.symm) y ((List.mem_cons.mp hy).resolve_left fun w => h2 w.symm)
theorem ren_inj {o u : Txt} (hu : u.Nodup) (hl : (firsts o).length ≤ u.length) : Inj (swp (firsts o) u) o := fun c hc d hd => swp_inj hu hl c (firsts_mem.2 hc) d (firsts_mem.2 hd)
theorem plain_ren {o u : Txt} (hu : u.Nodup) (hl : (firsts o).length ≤ u.length) : plainV (renV o u) = plainV o := plain_map (ren_inj hu hl)
theorem ren_mem {o u : Txt} {c : Nat} (hl : (firsts o).length ≤ u.length) (h : c ∈ renV o u) : c ∈ u := by
  obtain ⟨d, hd, rfl⟩ := List.mem_map.mp h
  exact swp_mem (firsts_mem.2 hd) hl
theorem fresh_nodup (l : Txt) : (freshV l).Nodup := List.Nodup.sublist List.filter_sublist (by decide)
theorem fresh_not {l : Txt} {c : Nat} (h : c ∈ freshV l) : c ∉ l ∧ c ∈ abc := by
  obtain ⟨h1, h2⟩ := List.mem_filter.mp h
  exact ⟨by simpa using h2, h1⟩
/-- the cut at a place of a text -/
theorem cut_at {l : Txt} {n : Nat} (h : n ≤ l.length) : cutL l none (some (n : Int)) = l.take n ∧ cutL l (some (n : Int)) none = l.drop n := by
  constructor
  · exact cut_to h
  · exact cut_from h
/-- put in at a place: what the row's letters are, and what lies between -/
theorem put_parts {l o : Txt} {n : Nat} (h : n ≤ l.length) : putV l (n : Int) o = l.take n ++ renV o (freshV l) ++ l.drop n := by
  unfold putV
  rw [(cut_at h).1, (cut_at h).2]
theorem put_own {l o : Txt} {n : Nat} (h : n ≤ l.length) (hl : (firsts o).length ≤ (freshV l).length) : (putV l (n : Int) o).filter (fun c => decide (c ∈ l)) = l := by
  rw [put_parts h, List.filter_append, List.filter_append]
  have e1 : (l.take n).filter (fun c => decide (c ∈ l)) = l.take n := List.filter_eq_self.mpr fun c hc => decide_eq_true (List.mem_of_mem_take hc)
  have e2 : (l.drop n).filter (fun c => decide (c ∈ l)) = l.drop n := List.filter_eq_self.mpr fun c hc => decide_eq_true (List.mem_of_mem_drop hc)
  have e3 : (renV o (freshV l)).filter (fun c => decide (c ∈ l)) = [] := List.filter_eq_nil_iff.mpr fun c hc => by
    simpa using (fresh_not (ren_mem hl hc)).1
  rw [e1, e2, e3, List.append_nil, List.take_append_drop]
theorem put_other {l o : Txt} {n : Nat} (h : n ≤ l.length) (hl : (firsts o).length ≤ (freshV l).length) : (putV l (n : Int) o).filter (fun c => !decide (c ∈ l)) = renV o (freshV l) := by
  rw [put_parts h, List.filter_append, List.filter_append]
  have e1 : (l.take n).filter (fun c => !decide (c ∈ l)) = [] := List.filter_eq_nil_iff.mpr fun c hc => by simpa using List.mem_of_mem_take hc
  have e2 : (l.drop n).filter (fun c => !decide (c ∈ l)) = [] := List.filter_eq_nil_iff.mpr fun c hc => by simpa using List.mem_of_mem_drop hc
  have e3 : (renV o (freshV l)).filter (fun c => !decide (c ∈ l)) = renV o (freshV l) := List.filter_eq_self.mpr fun c hc => by simpa using (fresh_not (ren_mem hl hc)).1
  rw [e1, e2, e3, List.append_nil, List.nil_append]
end Law

namespace Law
open PySem L2 Wk

/-! ### plain: linked letters -/
/-- a row's signs of two letters, by what lies ahead of, between and behind the first letter's places -/
theorem told_split {x y z : Txt} {c m : Nat} (hx : c ∉ x) (hy : c ∉ y) (hz : c ∉ z) (hm : c ≠ m) : toldV (x ++ c :: (y ++ c :: z)) c m = List.replicate (x.count m) m ++ c :: (List.replicate (y.count m) m ++ c :: List.replicate (z.count m) m) := by
  have one : ∀ {w : Txt}, c ∉ w → w.filter (fun e => decide (e ∈ [c] ++ [m])) = List.replicate (w.count m) m := by
    intro w hw
    have e : w.filter (fun e => decide (e ∈ [c] ++ [m])) = w.filter (· == m) := by
      refine List.filter_congr fun d hd => ?_
      have : d ≠ c := fun y => hw (y ▸ hd)
      by_cases h : d = m <;> simp [this, h]
    rw [e, List.filter_beq]
  unfold toldV
  have hc : ∀ w : Txt, (c :: w).filter (fun e => decide (e ∈ [c] ++ [m])) = c :: w.filter (fun e => decide (e ∈ [c] ++ [m])) := fun w => List.filter_cons_of_pos (by simp)
  rw [List.filter_append, hc, List.filter_append, hc, one hx, one hy, one hz]
theorem lk_split {x y z : Txt} {c m : Nat} (hx : c ∉ x) (hy : c ∉ y) (hz : c ∉ z) (hm : c ≠ m) (h2 : x.count m + y.count m + z.count m = 2) : lkB (x ++ c :: (y ++ c :: z)) c m = decide (y.count m = 1) := by
  unfold lkB
  rw [told_split hx hy hz hm]
  generalize x.count m = a at *
  generalize y.count m = b at *
  generalize z.count m = e at *
  have hm' : ¬ m = c := fun w => hm w.symm
  have cases6 : (a = 0 ∧ b = 0 ∧ e = 2) ∨ (a = 0 ∧ b = 1 ∧ e = 1) ∨ (a = 0 ∧ b = 2 ∧ e = 0) ∨ (a = 1 ∧ b = 0 ∧ e = 1) ∨ (a = 1 ∧ b = 1 ∧ e = 0) ∨ (a = 2 ∧ b = 0 ∧ e = 0) := by omega
  rcases cases6 with ⟨rfl, rfl, rfl⟩ | ⟨rfl, rfl, rfl⟩ | ⟨rfl, rfl, rfl⟩ | ⟨rfl, rfl, rfl⟩ | ⟨rfl, rfl, rfl⟩ | ⟨rfl, rfl, rfl⟩ <;> simp [List.replicate_succ, hm, hm']
end Law

namespace Law
open PySem L2 Wk

/-! ### plain: the two places of a letter -/
theorem split_two {l : Txt} {c : Nat} (h : l.count c = 2) : ∃ x y z : Txt, l = x ++ c :: (y ++ c :: z) ∧ c ∉ x ∧ c ∉ y ∧ c ∉ z := by
  have h1 : c ∈ l := List.count_pos_iff.mp (by omega)
  obtain ⟨x, r, e, hx⟩ := List.eq_append_cons_of_mem h1
  have hx0 : x.count c = 0 := List.count_eq_zero.mpr hx
  rw [e, List.count_append, List.count_cons_self, hx0] at h
  have h2 : c ∈ r := List.count_pos_iff.mp (by omega)
  obtain ⟨y, z, e2, hy⟩ := List.eq_append_cons_of_mem h2
  have hy0 : y.count c = 0 := List.count_eq_zero.mpr hy
  rw [e2, List.count_append, List.count_cons_self, hy0] at h
  exact ⟨x, y, z, by rw [e, e2], hx, hy, List.count_eq_zero.mp (by omega)⟩
theorem numd_split (a b : Txt) : numd (a ++ b) = numd a ++ (numd b).map fun q => (q.1 + (a.length : Int), q.2) := by
  unfold numd
  rw [List.zipIdx_append, List.map_append, List.map_map]
  congr 1
  rw [List.zipIdx_eq_map_add, List.map_map]
  refine List.map_congr_left fun q _ => ?_
  show (((0 + a.length + q.2 : Nat) : Int), ([q.1] : Txt)) = ((q.2 : Int) + (a.length : Int), [q.1])
  rw [show ((0 + a.length + q.2 : Nat) : Int) = (q.2 : Int) + (a.length : Int) by omega]
theorem occ_app (a b : Txt) (c : Nat) : occ (a ++ b) c = occ a c ++ (occ b c).map fun i => i + (a.length : Int) := by
  unfold occ
  rw [numd_split, List.filter_append, List.map_append, List.filter_map, List.map_map, List.map_map]
  rfl
theorem occ_none {a : Txt} {c : Nat} (h : c ∉ a) : occ a c = [] := by
  unfold occ
  rw [List.map_eq_nil_iff, List.filter_eq_nil_iff]
  rintro q hq
  obtain ⟨p, hp, rfl⟩ := List.mem_map.mp hq
  have : p.1 ∈ a := by
    have := List.mem_zipIdx hp
    obtain ⟨_, _, e⟩ := this
    rw [e]
    exact List.getElem_mem _
  have hne : p.1 ≠ c := fun y => h (y ▸ this)
  simpa using hne
theorem occ_hd (c : Nat) : occ [c] c = [0] := by simp [occ, numd]
theorem occ_split {x y z : Txt} {c : Nat} (hx : c ∉ x) (hy : c ∉ y) (hz : c ∉ z) : occ (x ++ c :: (y ++ c :: z)) c = [(x.length : Int), ((x.length + 1 + y.length : Nat) : Int)] := by
  have e1 : x ++ c :: (y ++ c :: z) = x ++ ([c] ++ (y ++ ([c] ++ z))) := rfl
  rw [e1, occ_app, occ_app, occ_app, occ_app, occ_none hx, occ_none hy, occ_none hz, occ_hd]
  simp
  omega
end Law

namespace Law
open PySem L2 Wk

/-! ### plain: mates are linked letters -/
theorem inV_split {x y z : Txt} {c : Nat} (hx : c ∉ x) (hy : c ∉ y) (hz : c ∉ z) : inV (x ++ c :: (y ++ c :: z)) c = y := by
  unfold inV iAt jAt
  rw [occ_split hx hy hz]
  show cutL _ (some ((x.length : Int) + 1)) (some ((x.length + 1 + y.length : Nat) : Int)) = y
  unfold cutL
  have e0 : (x ++ c :: (y ++ c :: z)).length = x.length + 1 + y.length + 1 + z.length := by simp; omega
  have e1 : HT.sIx (x ++ c :: (y ++ c :: z)).length 0 (some ((x.length : Int) + 1)) = x.length + 1 := by
    rw [e0]
    unfold HT.sIx
    simp only
    rw [if_neg (by omega)]
    omega
  have e2 : HT.sIx (x ++ c :: (y ++ c :: z)).length (x ++ c :: (y ++ c :: z)).length (some ((x.length + 1 + y.length : Nat) : Int)) = x.length + 1 + y.length := by
    rw [e0]
    unfold HT.sIx
    simp only
    rw [if_neg (by omega)]
    omega
  rw [e1, e2]
  have e3 : x ++ c :: (y ++ c :: z) = (x ++ [c]) ++ (y ++ (c :: z)) := by simp
  rw [e3, List.drop_left' (by simp), show x.length + 1 + y.length - (x.length + 1) = y.length by omega, List.take_left' rfl]
end Law

namespace Law
open PySem L2 Wk
theorem once_count {u : Txt} {m : Nat} : (∃ i : Nat, u[i]? = some m ∧ ∀ k, k ≠ i → u[k]? ≠ some m) ↔ u.count m = 1 := by
  constructor
  · rintro ⟨i, h1, h2⟩
    obtain ⟨hi, e⟩ := List.getElem?_eq_some_iff.mp h1
    have e1 : u = u.take i ++ m :: u.drop (i + 1) := by rw [← e, List.getElem_cons_drop, List.take_append_drop]
    have a0 : (u.take i).count m = 0 := List.count_eq_zero.mpr fun y => by
      obtain ⟨k, hk, ek⟩ := List.mem_iff_getElem.mp y
      rw [List.length_take] at hk
      rw [List.getElem_take] at ek
      exact h2 k (by omega) (by rw [List.getElem?_eq_getElem (by omega), ek])
    have b0 : (u.drop (i + 1)).count m = 0 := List.count_eq_zero.mpr fun y => by
      obtain ⟨k, hk, ek⟩ := List.mem_iff_getElem.mp y
      rw [List.length_drop] at hk
      rw [List.getElem_drop] at ek
      exact h2 (i + 1 + k) (by omega) (by rw [List.getElem?_eq_getElem (by omega), ek])
    rw [e1, List.count_append, List.count_cons_self, a0, b0]
  · intro h
    have h1 : m ∈ u := List.count_pos_iff.mp (by omega)
    obtain ⟨x, r, e, hx⟩ := List.eq_append_cons_of_mem h1
    have hx0 : x.count m = 0 := List.count_eq_zero.mpr hx
    rw [e, List.count_append, List.count_cons_self, hx0] at h
    have hr : m ∉ r := List.count_eq_zero.mp (by omega)
    refine ⟨x.length, by rw [e]; simp, fun k hk y => ?_⟩
    rw [e] at y
    rcases Nat.lt_or_gt_of_ne hk with z | z
    · rw [List.getElem?_append_left z] at y
      exact hx (List.mem_of_getElem? y)
    · rw [List.getElem?_append_right (by omega)] at y
      rw [show k - x.length = (k - x.length - 1) + 1 by omega, List.getElem?_cons_succ] at y
      exact hr (List.mem_of_getElem? y)
theorem once_mem {u : Txt} {m : Nat} : m ∈ onceV u ↔ u.count m = 1 := by
  unfold onceV
  rw [List.mem_filter, ups_mem]
  constructor
  · rintro ⟨h1, h2⟩
    exact once_count.mp ((once_iff h1).mp (of_decide_eq_true h2))
  · intro h
    have h1 : m ∈ u := List.count_pos_iff.mp (by omega)
    exact ⟨h1, decide_eq_true ((once_iff h1).mpr (once_count.mpr h))⟩
/-- mates are the letters that the law calls linked -/
theorem mate_iff {d : Txt} {c m : Nat} (hc : d.count c = 2) (hm : d.count m = 2) (hne : c ≠ m) : m ∈ onceV (inV d c) ↔ lkB d c m = true := by
  obtain ⟨x, y, z, rfl, hx, hy, hz⟩ := split_two hc
  rw [inV_split hx hy hz, once_mem, lk_split hx hy hz hne, decide_eq_true_iff]
  have hcm : ¬ c = m := hne
  have e : x.count m + y.count m + z.count m = 2 := by
    rw [List.count_append, List.count_cons_of_ne hne, List.count_append, List.count_cons_of_ne hne] at hm
    omega
  exact e
end Law

namespace Law
open PySem L2 Wk
theorem told_filter {d : Txt} {p : Nat → Bool} {c m : Nat} (hc : p c = true) (hm : p m = true) : toldV (d.filter p) c m = toldV d c m := by
  unfold toldV
  rw [List.filter_filter]
  refine List.filter_congr fun e _ => ?_
  by_cases h : e ∈ [c] ++ [m]
  · rcases (by simpa using h : e = c ∨ e = m) with rfl | rfl <;> simp [hc, hm]
  · simp only [decide_eq_false h, Bool.false_and]
theorem lk_filter {d : Txt} {p : Nat → Bool} {c m : Nat} (hc : p c = true) (hm : p m = true) : lkB (d.filter p) c m = lkB d c m := by
  unfold lkB
  rw [told_filter hc hm]
/-- letters of the row and letters of what is put in are never linked -/
theorem lk_cross {a b i : Txt} {c m : Nat} (hi : c ∉ i) (ha : m ∉ a) (hb : m ∉ b) (hm : i.count m = 2) (hne : c ≠ m) : toldV (a ++ i ++ b) c m = List.replicate (a.count c) c ++ [m, m] ++ List.replicate (b.count c) c := by
  have one : ∀ {w : Txt}, m ∉ w → w.filter (fun e => decide (e ∈ [c] ++ [m])) = List.replicate (w.count c) c := by
    intro w hw
    have e : w.filter (fun e => decide (e ∈ [c] ++ [m])) = w.filter (· == c) := by
      refine List.filter_congr fun d hd => ?_
      have : d ≠ m := fun y => hw (y ▸ hd)
      by_cases h : d = c <;> simp [this, h]
    rw [e, List.filter_beq]
  have two : i.filter (fun e => decide (e ∈ [c] ++ [m])) = List.replicate (i.count m) m := by
    have e : i.filter (fun e => decide (e ∈ [c] ++ [m])) = i.filter (· == m) := by
      refine List.filter_congr fun d hd => ?_
      have : d ≠ c := fun y => hi (y ▸ hd)
      by_cases h : d = m <;> simp [this, h]
    rw [e, List.filter_beq]
  unfold toldV
  rw [List.filter_append, List.filter_append, one ha, one hb, two, hm]
  rfl
theorem lk_cross_no {a b i : Txt} {c m : Nat} (hi : c ∉ i) (ha : m ∉ a) (hb : m ∉ b) (hm : i.count m = 2) (hc : a.count c + b.count c = 2) (hne : c ≠ m) : lkB (a ++ i ++ b) c m = false := by
  unfold lkB
  rw [lk_cross hi ha hb hm hne]
  generalize a.count c = x at *
  generalize b.count c = y at *
  have hm' : ¬ m = c := fun w => hne w.symm
  have c3 : (x = 0 ∧ y = 2) ∨ (x = 1 ∧ y = 1) ∨ (x = 2 ∧ y = 0) := by omega
  rcases c3 with ⟨rfl, rfl⟩ | ⟨rfl, rfl⟩ | ⟨rfl, rfl⟩ <;> simp [List.replicate_succ, hne, hm']
end Law

namespace Law
open PySem L2 Wk

theorem ups_nodup (l : Txt) : (ups l).Nodup := (ups_up l).imp fun h => Nat.ne_of_lt h
/-! ### rows in plain -/
def Proper (l : Txt) (ls : Txt) : Prop := ls.Nodup ∧ 1 ≤ ls.length ∧ ls.length ≤ 10 ∧ (∀ c ∈ ls, c ∈ abc) ∧ l.Perm (ls ++ ls)
section
variable {l ls k : Txt}
theorem Proper.len (h : Proper l ls) : l.length = 2 * ls.length := by
  rw [h.2.2.2.2.length_eq, List.length_append]
  omega
theorem Proper.mem (h : Proper l ls) {c : Nat} : c ∈ l ↔ c ∈ ls := by
  rw [h.2.2.2.2.mem_iff, List.mem_append]
  exact ⟨fun y => y.elim id id, .inl⟩
theorem Proper.perm (h : Proper l ls) (p : k.Perm l) : Proper k ls := ⟨h.1, h.2.1, h.2.2.1, h.2.2.2.1, p.trans h.2.2.2.2⟩
theorem Proper.ups (h : Proper l ls) : (ups l).Perm ls := by
  have e : Wk.ups l = Wk.ups ls := ups_of_same fun x => h.mem
  rw [e]
  refine (List.perm_ext_iff_of_nodup (ups_nodup ls) h.1).mpr fun c => ups_mem
theorem cnt_eq (l : Txt) (c : Nat) : cntT l [c] = (l.count c : Nat) := by
  unfold cntT
  rw [List.map_id]
  unfold sgs
  rw [List.filter_map, List.length_map, List.count_eq_length_filter]
  congr 2
  refine List.filter_congr fun d _ => ?_
  show decide (([d] : Txt) = [c]) = (d == c)
  rw [Bool.eq_iff_iff, decide_eq_true_eq, beq_iff_eq]
  simp
theorem cnt_one : ∀ {ls : Txt} {c : Nat}, ls.Nodup → c ∈ ls → ls.count c = 1
  | d :: ls, c, hn, hc => by
    obtain ⟨h1, h2⟩ := List.nodup_cons.mp hn
    rw [List.count_cons]
    rcases List.mem_cons.mp hc with y | y
    · subst y
      rw [List.count_eq_zero_of_not_mem h1]
      simp
    · rw [cnt_one h2 y, if_neg (by
        intro q
        have : d = c := by simpa using q
        exact h1 (this ▸ y))]
theorem Proper.row (h : Proper l ls) : rowB l = true := by
  have hlen := h.len
  obtain ⟨h1, h2, h3, h4, h5⟩ := id h
  unfold rowB wordB
  rw [Bool.and_eq_true, Bool.and_eq_true, Bool.and_eq_true, decide_eq_true_eq, decide_eq_true_eq]
  refine ⟨⟨⟨by omega, by omega⟩, ?_⟩, ?_⟩
  · rw [List.all_eq_true]
    intro c hc
    exact decide_eq_true (h4 c (h.mem.1 hc))
  · rw [List.all_map, List.all_eq_true]
    intro t ht
    obtain ⟨c, hc, rfl⟩ := sgs_mem.1 ht
    refine decide_eq_true ?_
    rw [cnt_eq, h5.count_eq, List.count_append]
    have hc2 : c ∈ ls := h.mem.1 (ups_mem.1 hc)
    have a1 : ls.count c = 1 := cnt_one h1 hc2
    rw [a1]
    rfl
theorem Proper.low (h : Proper l ls) : Low l := by
  unfold Low
  rw [List.all_eq_true]
  intro c hc
  have := h.2.2.2.1 c (h.mem.1 hc)
  simp [abc] at this
  simp
  omega
end

/-! ### writes -/
theorem setAll_len {α : Type} : ∀ (ws : List (Nat × α)) (fl : List α), (ws.foldl (fun fl w => fl.set w.1 w.2) fl).length = fl.length
  | [], _ => rfl
  | w :: ws, fl => by
    rw [List.foldl_cons, setAll_len ws, List.length_set]
theorem setAll_out {α : Type} : ∀ (ws : List (Nat × α)) (fl : List α) (q : Nat), q ∉ ws.map (·.1) → (ws.foldl (fun fl w => fl.set w.1 w.2) fl)[q]? = fl[q]?
  | [], _, _, _ => rfl
  | w :: ws, fl, q, h => by
    rw [List.map_cons, List.mem_cons, not_or] at h
    rw [List.foldl_cons, setAll_out ws _ q h.2, List.getElem?_set_ne (Ne.symm h.1)]
theorem setAll_at {α : Type} : ∀ (ws : List (Nat × α)) (fl : List α), (ws.map (·.1)).Nodup → (∀ w ∈ ws, w.1 < fl.length) → ∀ w ∈ ws, (ws.foldl (fun fl w => fl.set w.1 w.2) fl)[w.1]? = some w.2
  | [], _, _, _, _, h => by cases h
  | v :: ws, fl, hn, hl, w, hw => by
    rw [List.map_cons, List.nodup_cons] at hn
    rw [List.foldl_cons]
    rcases List.mem_cons.mp hw with y | y
    · subst y
      rw [setAll_out ws _ _ hn.1, List.getElem?_set_self (hl w (by simp))]
    · exact setAll_at ws _ hn.2 (fun u hu => by rw [List.length_set]; exact hl u (List.mem_cons_of_mem _ hu)) w y
theorem setAll_perm {α : Type} (ws : List (Nat × α)) (fl : List α) (d : α) (hp : (ws.map (·.1)).Perm (List.range fl.length)) : (ws.foldl (fun fl w => fl.set w.1 w.2) fl).Perm (ws.map (·.2)) := by
  have hl := setAll_len ws fl
  generalize hr : ws.foldl (fun fl w => fl.set w.1 w.2) fl = r at hl
  have hat : ∀ w ∈ ws, r.getD w.1 d = w.2 := fun w hw => by
    have := setAll_at ws fl (hp.nodup_iff.mpr List.nodup_range) (fun u hu => List.mem_range.mp (hp.mem_iff.mp (List.mem_map.mpr ⟨u, hu, rfl⟩))) w hw
    rw [hr] at this
    rw [List.getD_eq_getElem?_getD, this]
    rfl
  have e1 : (List.range fl.length).map (fun i => r.getD i d) = r := by
    apply List.ext_getElem
    · rw [List.length_map, List.length_range, hl]
    · intro i h1 h2
      rw [List.getElem_map, List.getElem_range, List.getD_eq_getElem?_getD, List.getElem?_eq_getElem h2]
      rfl
  have e2 : (ws.map (·.1)).map (fun i => r.getD i d) = ws.map (·.2) := by
    rw [List.map_map]
    exact List.map_congr_left hat
  rw [← e2]
  conv => lhs; rw [← e1]
  exact (hp.map _).symm
theorem puts_eq : ∀ (vs : List Txt) (q : List Int) (fl : List Txt), vs.length ≤ q.length → (vs.foldl (fun t c => rowPut c t) (q.reverse, fl)).2 = ((q.map Int.toNat).zip vs).foldl (fun fl w => fl.set w.1 w.2) fl
  | [], q, fl, _ => by simp
  | v :: vs, [], fl, h => by simp at h
  | v :: vs, x :: q, fl, h => by
    rw [List.foldl_cons]
    have e : rowPut v ((x :: q).reverse, fl) = (q.reverse, fl.set x.toNat v) := by
      unfold rowPut
      rw [List.reverse_cons]
      show ((q.reverse ++ [x]).dropLast, fl.set ((q.reverse ++ [x]).getLastD 0).toNat v) = _
      rw [List.dropLast_concat]
      congr 2
      simp
    rw [e, puts_eq vs q _ (by simpa using h)]
    rfl
theorem steps_puts : ∀ (cs : List Txt) (t : List Int × List Txt), cs.foldl rowStep t = (cs.flatMap fun c => [c, c]).foldl (fun t c => rowPut c t) t
  | [], _ => rfl
  | c :: cs, t => by
    rw [List.foldl_cons, steps_puts cs]
    rfl
theorem twice_flat : ∀ ls : Txt, ((sgs ls).flatMap fun c => [c, c]).flatten.Perm (ls ++ ls)
  | [] => List.Perm.refl _
  | c :: ls => by
    have ih := twice_flat ls
    show ([c] ++ ([c] ++ ((sgs ls).flatMap fun c => [c, c]).flatten)).Perm _
    have h1 : (c :: (c :: (ls ++ ls))).Perm ((c :: ls) ++ (c :: ls)) := by
      rw [List.cons_append]
      exact (List.perm_middle.symm).cons c
    exact ((ih.cons c).cons c).trans h1
theorem sgs_of_perm {k : List Txt} {l : Txt} (h : k.Perm (sgs l)) : ∃ l', l'.Perm l ∧ k = sgs l' := by
  have hall : ∀ t ∈ k, ∃ c, t = [c] := fun t ht => by
    obtain ⟨c, _, e⟩ := sgs_mem.1 (h.mem_iff.mp ht)
    exact ⟨c, e⟩
  have e : k = sgs k.flatten := by
    clear h
    induction k with
    | nil => rfl
    | cons t k ih =>
      obtain ⟨c, rfl⟩ := hall t (by simp)
      have i := ih fun t ht => hall t (List.mem_cons_of_mem _ ht)
      show [c] :: k = [c] :: sgs k.flatten
      rw [← i]
  refine ⟨k.flatten, ?_, e⟩
  have := h.flatten
  rwa [sgs_flat] at this
/-- what any_row gives is a row -/
theorem rowV_proper (j : Jar) (m : Int) (h0 : 1 ≤ m) (h1 : m ≤ 10) : ∃ ls, Proper (rowV j m) ls ∧ (ls.length : Int) = m := by
  obtain ⟨X, pX, eX⟩ := sgs_of_perm (show (mixV (rowJ0 j m) (sing abc)).Perm (sgs abc) from mixV_perm (rowJ0 j m) (sing abc))
  have eL : rowLets j m = sgs (X.take m.toNat) := by
    unfold rowLets
    rw [eX, show m = ((m.toNat : Nat) : Int) by omega, cut_to (by rw [sgs_len, pX.length_eq]; show m.toNat ≤ 10; omega)]
    unfold sgs
    rw [List.map_take]
    rfl
  have lX : (X.take m.toNat).length = m.toNat := by
    rw [List.length_take, pX.length_eq]
    show min m.toNat 10 = m.toNat
    omega
  refine ⟨X.take m.toNat, ⟨(pX.nodup_iff.mpr (by decide)).sublist (List.take_sublist _ _), by omega, by omega, fun c hc => pX.mem_iff.mp (List.take_subset _ _ hc), ?_⟩, by omega⟩
  unfold rowV
  rw [eL, steps_puts]
  refine List.Perm.trans (List.Perm.flatten ?_) (twice_flat _)
  have ps := mixV_perm j ((List.range (2 * m).toNat).map fun k : Nat => (k : Int))
  have pl : (rowSpots j m).length = (2 * m).toNat := by
    unfold rowSpots
    rw [ps.length_eq, List.length_map, List.length_range]
  have fl : ((List.replicate (2 * m).toNat [([] : Txt)]).flatten).length = (2 * m).toNat := by simp
  have vl : ((sgs (X.take m.toNat)).flatMap fun c => [c, c]).length = (2 * m).toNat := by
    have : ∀ k : List Txt, (k.flatMap fun c => [c, c]).length = 2 * k.length := by
      intro k
      induction k with
      | nil => rfl
      | cons c k ih =>
        have e : ((c :: k).flatMap fun c => [c, c]).length = 2 + (k.flatMap fun c => [c, c]).length := by
          rw [List.flatMap_cons, List.length_append]
          rfl
        have e2 : (c :: k).length = k.length + 1 := rfl
        omega
    rw [this, sgs_len, lX]
    omega
  have key := puts_eq ((sgs (X.take m.toNat)).flatMap fun c => [c, c]) (rowSpots j m).reverse ((List.replicate (2 * m).toNat [([] : Txt)]).flatten) (by rw [List.length_reverse, pl, vl]; exact Nat.le_refl _)
  rw [List.reverse_reverse] at key
  rw [key]
  have l2 : ((rowSpots j m).reverse.map Int.toNat).length = ((sgs (X.take m.toNat)).flatMap fun c => [c, c]).length := by
    rw [List.length_map, List.length_reverse, pl, vl]
  have y := setAll_perm (((rowSpots j m).reverse.map Int.toNat).zip ((sgs (X.take m.toNat)).flatMap fun c => [c, c])) ((List.replicate (2 * m).toNat [([] : Txt)]).flatten) [] (by
    rw [List.map_fst_zip (Nat.le_of_eq l2), fl]
    have e : ((List.range (2 * m).toNat).map fun k : Nat => (k : Int)).map Int.toNat = List.range (2 * m).toNat := by
      rw [List.map_map]
      exact (List.map_congr_left fun k _ => by simp).trans (List.map_id _)
    have z := (ps.map Int.toNat)
    rw [e] at z
    exact (((List.reverse_perm (rowSpots j m)).map Int.toNat).trans z))
  rw [List.map_snd_zip (Nat.le_of_eq l2.symm)] at y
  exact y
end Law

namespace Law
open PySem L2 Wk

/-! ### plain: the pairs -/
theorem fold_flat {β : Type} (g : Txt → List β) : ∀ (u : List Txt) (k : List β), u.foldl (fun k t => k ++ g t) k = k ++ u.flatMap g
  | [], k => by simp
  | t :: u, k => by rw [List.foldl_cons, fold_flat g u, List.flatMap_cons, List.append_assoc]
/-- two ascending texts of the same signs are the same -/
theorem up_ext {a b : Txt} (ha : a.Pairwise (· < ·)) (hb : b.Pairwise (· < ·)) (h : ∀ c, c ∈ a ↔ c ∈ b) : a = b := by
  have na : a.Nodup := ha.imp fun h => Nat.ne_of_lt h
  have nb : b.Nodup := hb.imp fun h => Nat.ne_of_lt h
  exact List.Perm.eq_of_pairwise (le := fun a b : Nat => a < b) (fun x y _ _ h1 h2 => absurd h2 (Nat.lt_asymm h1)) ha hb ((List.perm_ext_iff_of_nodup na nb).mpr h)
/-- the pairs of ascending signs with a mark -/
def pairL (u : Txt) (q : Nat → Nat → Bool) : List Txt := u.flatMap fun c => (u.filter fun m => decide (c < m) && q c m).map fun m => ([c, m] : Txt)
theorem one_lt {c m : Nat} : (([c] : Txt) < [m]) ↔ c < m := by
  rw [List.cons_lt_cons_iff]
  simp
theorem flatMap_sgs {β : Type} (g : Txt → List β) (u : Txt) : (sgs u).flatMap g = u.flatMap fun c => g [c] := by
  unfold sgs
  rw [List.flatMap_map]
theorem lps_eq (l : Txt) : lpsV l = pairL (ups l) (lkB l) := by
  unfold lpsV
  rw [fold_flat (fun t => lpV l (t.headD 0)), List.nil_append, flatMap_sgs]
  unfold pairL
  congr 1
  funext c
  show lpV l c = _
  unfold lpV
  rw [sgs_filter]
  unfold sgs
  rw [List.map_map]
  congr 1
  refine List.filter_congr fun m _ => ?_
  show (decide (([c] : Txt) < [m]) && lkB l c m) = _
  congr 1
  exact decide_eq_decide.mpr one_lt
theorem flat_congr {β : Type} {g h : Nat → List β} : ∀ {u : Txt}, (∀ c ∈ u, g c = h c) → u.flatMap g = u.flatMap h
  | [], _ => rfl
  | c :: u, q => by rw [List.flatMap_cons, List.flatMap_cons, q c (List.mem_cons_self ..), flat_congr fun d hd => q d (List.mem_cons_of_mem _ hd)]
theorem pairs_eq {d : Txt} (h2 : ∀ c ∈ d, d.count c = 2) : pairsV d = pairL (ups d) (lkB d) := by
  unfold pairsV
  rw [fold_flat (fun t => lnkV d (t.headD 0)), List.nil_append, flatMap_sgs]
  unfold pairL
  refine flat_congr fun c hc => ?_
  have hcd : c ∈ d := ups_mem.1 hc
  show lnkV d c = _
  unfold lnkV
  rw [sgs_filter]
  have e : ((onceV (inV d c)).filter fun m => decide (([c] : Txt) < [m])) = (ups d).filter fun m => decide (c < m) && lkB d c m := by
    refine up_ext (((ups_up _).filter _).filter _) ((ups_up _).filter _) fun m => ?_
    rw [List.mem_filter, List.mem_filter, Bool.and_eq_true, decide_eq_true_eq, decide_eq_true_eq, one_lt]
    constructor
    · rintro ⟨h, hlt⟩
      have hm : m ∈ d := by
        have : m ∈ inV d c := ups_mem.1 (List.mem_filter.mp h).1
        exact cut_mem this
      exact ⟨ups_mem.2 hm, hlt, (mate_iff (h2 c hcd) (h2 m hm) (Nat.ne_of_lt hlt)).1 h⟩
    · rintro ⟨h, hlt, hk⟩
      have hm : m ∈ d := ups_mem.1 h
      exact ⟨(mate_iff (h2 c hcd) (h2 m hm) (Nat.ne_of_lt hlt)).2 hk, hlt⟩
  rw [e]
  unfold sgs
  rw [List.map_map]
  rfl
theorem pairL_mem {u : Txt} {q : Nat → Nat → Bool} {t : Txt} : t ∈ pairL u q ↔ ∃ c m, t = [c, m] ∧ c ∈ u ∧ m ∈ u ∧ c < m ∧ q c m = true := by
  unfold pairL
  rw [List.mem_flatMap]
  constructor
  · rintro ⟨c, hc, h⟩
    obtain ⟨m, hm, rfl⟩ := List.mem_map.mp h
    obtain ⟨h1, h2⟩ := List.mem_filter.mp hm
    rw [Bool.and_eq_true, decide_eq_true_eq] at h2
    exact ⟨c, m, rfl, hc, h1, h2.1, h2.2⟩
  · rintro ⟨c, m, rfl, hc, hm, h1, h2⟩
    exact ⟨c, hc, List.mem_map.mpr ⟨m, List.mem_filter.mpr ⟨hm, by rw [Bool.and_eq_true, decide_eq_true_eq]; exact ⟨h1, h2⟩⟩, rfl⟩⟩
theorem pairL_up {u : Txt} (q : Nat → Nat → Bool) (hu : u.Pairwise (· < ·)) : (pairL u q).Pairwise (· < ·) := by
  unfold pairL
  rw [List.pairwise_flatMap]
  refine ⟨fun c _ => ?_, hu.imp fun {a b} hab x hx y hy => ?_⟩
  · refine List.pairwise_map.mpr ((hu.filter _).imp fun {a b} hab => ?_)
    show ([c, a] : Txt) < [c, b]
    exact List.cons_lt_cons_iff.mpr (.inr ⟨rfl, one_lt.2 hab⟩)
  · obtain ⟨m, _, rfl⟩ := List.mem_map.mp hx
    obtain ⟨k, _, rfl⟩ := List.mem_map.mp hy
    exact List.cons_lt_cons_iff.mpr (.inl hab)
theorem lt_ne {a b : Txt} (h : a < b) : a ≠ b := fun e => by
  subst e
  exact List.lt_irrefl a h
theorem pairL_nodup {u : Txt} (q : Nat → Nat → Bool) (hu : u.Pairwise (· < ·)) : (pairL u q).Nodup := (pairL_up q hu).imp fun h => lt_ne h
theorem sub_lenT {α : Type} [DecidableEq α] : ∀ {k u : List α}, k.Nodup → (∀ c ∈ k, c ∈ u) → k.length ≤ u.length
  | [], _, _, _ => Nat.zero_le _
  | c :: k, u, h, s => by
    have hc := s c (List.mem_cons_self ..)
    obtain ⟨hn, h'⟩ := List.nodup_cons.mp h
    have y := sub_lenT (k := k) (u := u.erase c) h' fun d hd => (List.mem_erase_of_ne (by intro e; rw [e] at hd; exact hn hd)).mpr (s d (List.mem_cons_of_mem _ hd))
    rw [List.length_erase_of_mem hc] at y
    have := List.length_pos_of_mem hc
    rw [List.length_cons]
    omega
theorem pairL_few {u : Txt} (q : Nat → Nat → Bool) (hu : u.Pairwise (· < ·)) (ha : ∀ c ∈ u, c ∈ abc) : (pairL u q).length ≤ 45 := by
  have h := sub_lenT (k := pairL u q) (u := pairL abc fun _ _ => true) (pairL_nodup q hu) fun t ht => by
    obtain ⟨c, m, rfl, hc, hm, h1, h2⟩ := pairL_mem.1 ht
    exact pairL_mem.2 ⟨c, m, rfl, ha c hc, ha m hm, h1, rfl⟩
  have e : (pairL abc fun _ _ => true).length = 45 := by decide
  omega
theorem lk_symm (l : Txt) (c m : Nat) : lkB l c m = lkB l m c := by
  have e : toldV l c m = toldV l m c := by
    unfold toldV
    refine List.filter_congr fun e _ => decide_eq_decide.mpr ?_
    simp [or_comm]
  unfold lkB
  rw [e]
  refine decide_eq_decide.mpr ?_
  simp [or_comm]
theorem filter_two (p : Nat → Bool) : ∀ l : Txt, (l.filter p).length + (l.filter fun c => !p c).length = l.length
  | [] => rfl
  | c :: l => by
    have i := filter_two p l
    cases h : p c
    · rw [List.filter_cons_of_neg (by simp [h]), List.filter_cons_of_pos (by simp [h]), List.length_cons, List.length_cons]
      omega
    · rw [List.filter_cons_of_pos h, List.filter_cons_of_neg (by simp [h]), List.length_cons, List.length_cons]
      omega
section
variable {l o ls os d : Txt} {n : Nat}
theorem fresh_count (h : Proper l ls) : (freshV l).length + ls.length = 10 := by
  have e := filter_two (fun c => decide (c ∈ l)) abc
  have p : (abc.filter fun c => decide (c ∈ l)).Perm ls := (List.perm_ext_iff_of_nodup (List.Nodup.sublist List.filter_sublist (by decide)) h.1).mpr fun c => by
    rw [List.mem_filter, decide_eq_true_eq, h.mem]
    exact ⟨fun y => y.2, fun y => ⟨h.2.2.2.1 c y, y⟩⟩
  have q := p.length_eq
  have e2 : abc.length = 10 := rfl
  have e3 : (freshV l).length = (abc.filter fun c => !decide (c ∈ l)).length := rfl
  omega
theorem firsts_len (h : Proper o os) : (firsts o).length = os.length :=
  ((List.perm_ext_iff_of_nodup (firsts_nodup o) h.1).mpr fun c => by rw [firsts_mem, h.mem]).length_eq
theorem put_room (h : Proper l ls) (g : Proper o os) (hs : ls.length + os.length ≤ 10) : (firsts o).length ≤ (freshV l).length := by
  have := fresh_count h
  have := firsts_len g
  omega
theorem map_nodup {f : Nat → Nat} : ∀ {k : Txt}, k.Nodup → Inj f k → (k.map f).Nodup
  | [], _, _ => List.nodup_nil
  | c :: k, h, i => by
    obtain ⟨h1, h2⟩ := List.nodup_cons.mp h
    rw [List.map_cons, List.nodup_cons]
    refine ⟨fun y => ?_, map_nodup h2 fun a ha b hb => i a (List.mem_cons_of_mem _ ha) b (List.mem_cons_of_mem _ hb)⟩
    obtain ⟨e, he, q⟩ := List.mem_map.mp y
    exact h1 (i e (List.mem_cons_of_mem _ he) c (List.mem_cons_self ..) q ▸ he)
theorem ren_proper (h : Proper l ls) (g : Proper o os) (hs : ls.length + os.length ≤ 10) : Proper (renV o (freshV l)) (os.map (swp (firsts o) (freshV l))) := by
  have hl := put_room h g hs
  have inj : Inj (swp (firsts o) (freshV l)) os := fun c hc d hd => ren_inj (o := o) (fresh_nodup l) hl c (g.mem.2 hc) d (g.mem.2 hd)
  refine ⟨map_nodup g.1 inj, by rw [List.length_map]; exact g.2.1, by rw [List.length_map]; exact g.2.2.1, fun c hc => ?_, ?_⟩
  · obtain ⟨e, he, rfl⟩ := List.mem_map.mp hc
    exact (fresh_not (swp_mem (firsts_mem.2 (g.mem.2 he)) hl)).2
  · unfold renV
    rw [← List.map_append]
    exact g.2.2.2.2.map _
theorem put_proper (h : Proper l ls) (g : Proper o os) (hs : ls.length + os.length ≤ 10) {n : Nat} (hn : n ≤ l.length) : Proper (putV l (n : Int) o) (ls ++ os.map (swp (firsts o) (freshV l))) := by
  have hl := put_room h g hs
  have r := ren_proper h g hs
  refine ⟨?_, by rw [List.length_append]; have := h.2.1; omega, by rw [List.length_append, List.length_map]; omega, fun c hc => ?_, ?_⟩
  · rw [List.nodup_append]
    refine ⟨h.1, r.1, fun a ha b hb e => ?_⟩
    subst e
    exact (fresh_not (ren_mem hl (r.mem.2 hb))).1 (h.mem.2 ha)
  · rcases List.mem_append.mp hc with y | y
    · exact h.2.2.2.1 c y
    · exact r.2.2.2.1 c y
  · rw [put_parts hn]
    have p1 : (l.take n ++ renV o (freshV l) ++ l.drop n).Perm (l ++ renV o (freshV l)) := by
      have y : (l.take n ++ renV o (freshV l) ++ l.drop n).Perm (l.take n ++ (l.drop n ++ renV o (freshV l))) := by
        rw [List.append_assoc]
        exact List.perm_append_comm.append_left _
      rw [← List.append_assoc, List.take_append_drop] at y
      exact y
    refine p1.trans ((h.2.2.2.2.append r.2.2.2.2).trans ?_)
    generalize os.map (swp (firsts o) (freshV l)) = rs
    rw [List.append_assoc, List.append_assoc]
    refine List.Perm.append_left ls ?_
    rw [← List.append_assoc, ← List.append_assoc]
    exact List.perm_append_comm.append_right rs
theorem Proper.two (h : Proper d ls) : ∀ c ∈ d, d.count c = 2 := fun c hc => by
  rw [h.2.2.2.2.count_eq, List.count_append, cnt_one h.1 (h.mem.1 hc)]
theorem Proper.occ (h : Proper d ls) : ∀ c ∈ d, (occ d c).length = 2 := fun c hc => by
  obtain ⟨x, y, z, e, hx, hy, hz⟩ := split_two (h.two c hc)
  rw [e, occ_split hx hy hz]
  rfl
theorem cut_mid {a b r : Txt} : cutL (a ++ r ++ b) (some (a.length : Int)) (some ((a.length + r.length : Nat) : Int)) = r := by
  unfold cutL
  have e1 : HT.sIx (a ++ r ++ b).length 0 (some (a.length : Int)) = a.length := by
    unfold HT.sIx
    simp only [List.length_append]
    rw [if_neg (by omega)]
    omega
  have e2 : HT.sIx (a ++ r ++ b).length (a ++ r ++ b).length (some ((a.length + r.length : Nat) : Int)) = a.length + r.length := by
    unfold HT.sIx
    simp only [List.length_append]
    rw [if_neg (by omega)]
    omega
  rw [e1, e2]
  simp
theorem put_cut (hn : n ≤ l.length) : cutL (putV l (n : Int) o) (some (n : Int)) (some ((n : Int) + (o.length : Int))) = renV o (freshV l) := by
  rw [put_parts hn]
  have e := cut_mid (a := l.take n) (b := l.drop n) (r := renV o (freshV l))
  have e1 : (l.take n).length = n := by rw [List.length_take]; omega
  rw [e1, ren_len] at e
  exact e
theorem put_len (hn : n ≤ l.length) : (putV l (n : Int) o).length = l.length + o.length := by
  rw [put_parts hn, List.length_append, List.length_append, List.length_take, List.length_drop, ren_len]
  omega
theorem plain_pre (h : Proper l ls) : l.length < 60 ∧ l ≠ [] ∧ ∀ w ∈ waysV l, w.length < 60 ∧ (firsts w).length ≤ 10 := by
  have hlen := h.len
  have h1 := h.2.1
  have h2 := h.2.2.1
  refine ⟨by omega, fun e => ?_, fun w hw => ⟨?_, ?_⟩⟩
  · rw [e] at hlen
    simp only [List.length_nil] at hlen
    omega
  · obtain ⟨v, p, hv, rfl⟩ := ways_mem hw
    have hvl : v.length = l.length := by
      rcases hv with rfl | rfl
      · rfl
      · exact List.length_reverse
    have c1 := cut_le v (some p) none
    have c2 := cut_le v none (some p)
    rw [List.length_append]
    omega
  · have y := sub_len (k := firsts w) (u := ls) (firsts_nodup w) fun c hc => h.mem.1 (ways_sub hw (firsts_mem.1 hc))
    omega
theorem put_pairs (h : Proper l ls) (g : Proper o os) (hs : ls.length + os.length ≤ 10) (hn : n ≤ l.length) : (pairsV (putV l (n : Int) o)).Perm (lpsV l ++ lpsV (renV o (freshV l))) ∧ (pairsV (putV l (n : Int) o)).Pairwise (fun a b => ¬ b < a) ∧ (lpsV l ++ lpsV (renV o (freshV l))).length < 64 ∧ (lpsV l).length ≤ 45 ∧ (lpsV (renV o (freshV l))).length ≤ 45 := by
  have hl := put_room h g hs
  have pr := ren_proper h g hs
  have pd := put_proper h g hs hn
  have nr : ∀ c, c ∈ renV o (freshV l) → c ∉ l := fun c hc => (fresh_not (ren_mem hl hc)).1
  have e := pairs_eq pd.two
  have el := lps_eq l
  have er := lps_eq (renV o (freshV l))
  have own := put_own (o := o) hn hl
  have oth := put_other (o := o) hn hl
  have md : ∀ c, c ∈ putV l (n : Int) o ↔ c ∈ l ∨ c ∈ renV o (freshV l) := fun c => by
    rw [pd.mem, List.mem_append, ← h.mem, ← pr.mem]
  have cross : ∀ c m, c ∈ l → m ∈ renV o (freshV l) → lkB (putV l (n : Int) o) c m = false := fun c m hc hm => by
    rw [put_parts hn]
    refine lk_cross_no (fun y => nr c y hc) (fun y => nr m hm (List.mem_of_mem_take y)) (fun y => nr m hm (List.mem_of_mem_drop y)) (pr.two m hm) ?_ (fun y => nr m hm (y ▸ hc))
    rw [← List.count_append, List.take_append_drop]
    exact h.two c hc
  have inl : ∀ c m, c ∈ l → m ∈ l → lkB (putV l (n : Int) o) c m = lkB l c m := fun c m hc hm => by
    have y := lk_filter (d := putV l (n : Int) o) (p := fun c => decide (c ∈ l)) (decide_eq_true hc) (decide_eq_true hm)
    rw [own] at y
    exact y.symm
  have inr : ∀ c m, c ∈ renV o (freshV l) → m ∈ renV o (freshV l) → lkB (putV l (n : Int) o) c m = lkB (renV o (freshV l)) c m := fun c m hc hm => by
    have y := lk_filter (d := putV l (n : Int) o) (p := fun c => !decide (c ∈ l)) (by simpa using nr c hc) (by simpa using nr m hm)
    rw [oth] at y
    exact y.symm
  have few := pairL_few (lkB (putV l (n : Int) o)) (ups_up (putV l (n : Int) o)) fun c hc => pd.2.2.2.1 c (pd.mem.1 (ups_mem.1 hc))
  have fl := pairL_few (lkB l) (ups_up l) fun c hc => h.2.2.2.1 c (h.mem.1 (ups_mem.1 hc))
  have fr := pairL_few (lkB (renV o (freshV l))) (ups_up (renV o (freshV l))) fun c hc => pr.2.2.2.1 c (pr.mem.1 (ups_mem.1 hc))
  have nd := pairL_nodup (lkB (putV l (n : Int) o)) (ups_up (putV l (n : Int) o))
  have up := pairL_up (lkB (putV l (n : Int) o)) (ups_up (putV l (n : Int) o))
  have n1 := pairL_nodup (lkB l) (ups_up l)
  have n2 := pairL_nodup (lkB (renV o (freshV l))) (ups_up (renV o (freshV l)))
  rw [← e] at few nd up
  rw [← el] at fl n1
  rw [← er] at fr n2
  have p : (pairsV (putV l (n : Int) o)).Perm (lpsV l ++ lpsV (renV o (freshV l))) := by
    refine (List.perm_ext_iff_of_nodup nd ?_).mpr fun t => ?_
    · rw [List.nodup_append]
      refine ⟨n1, n2, fun a ha b hb q => ?_⟩
      subst q
      rw [el] at ha
      rw [er] at hb
      obtain ⟨c, m, e1, hc, _⟩ := pairL_mem.1 ha
      obtain ⟨c2, m2, e2, hc2, _⟩ := pairL_mem.1 hb
      rw [e1] at e2
      have e3 : c = c2 := by injection e2
      exact nr c2 (ups_mem.1 hc2) (e3 ▸ ups_mem.1 hc)
    · rw [List.mem_append, e, el, er, pairL_mem, pairL_mem, pairL_mem]
      constructor
      · rintro ⟨c, m, rfl, hc, hm, hlt, hk⟩
        rw [ups_mem, md] at hc hm
        rcases hc with hc | hc <;> rcases hm with hm | hm
        · exact .inl ⟨c, m, rfl, ups_mem.2 hc, ups_mem.2 hm, hlt, (inl c m hc hm) ▸ hk⟩
        · rw [cross c m hc hm] at hk
          cases hk
        · rw [lk_symm, cross m c hm hc] at hk
          cases hk
        · exact .inr ⟨c, m, rfl, ups_mem.2 hc, ups_mem.2 hm, hlt, (inr c m hc hm) ▸ hk⟩
      · rintro (⟨c, m, rfl, hc, hm, hlt, hk⟩ | ⟨c, m, rfl, hc, hm, hlt, hk⟩)
        · have hc' := ups_mem.1 hc
          have hm' := ups_mem.1 hm
          exact ⟨c, m, rfl, ups_mem.2 ((md c).2 (.inl hc')), ups_mem.2 ((md m).2 (.inl hm')), hlt, (inl c m hc' hm').trans hk⟩
        · have hc' := ups_mem.1 hc
          have hm' := ups_mem.1 hm
          exact ⟨c, m, rfl, ups_mem.2 ((md c).2 (.inr hc')), ups_mem.2 ((md m).2 (.inr hm')), hlt, (inr c m hc' hm').trans hk⟩
  refine ⟨p, up.imp fun h => List.lt_asymm h, ?_, fl, fr⟩
  have := p.length_eq
  omega
end
end Law

namespace Law
open PySem L2 Wk
theorem E.is {ι : Type} {X : ι → Cx} {sl sl1 : List Wk.Slot} {α : Type} [Rep α] {a b : α} {e : Expr} (h : E X e sl sl1 a) (q : a = b) : E X e sl sl1 b := q ▸ h
/-- the for's body -/
def bodyOf : Stmt → List Stmt
  | .For _ _ b _ _ => b
  | _ => []
def thenOf : Stmt → List Stmt
  | .If _ b _ _ => b
  | _ => []
/-! ### _law_one -/
abbrev sOne : Stmt := topS 31
def oneV (j : Jar) (ls : List Txt) : Txt := ls.getD (dipV j ls.length).toNat []
def oneJ (j : Jar) (ls : List Txt) : Jar := dipJ j ls.length
theorem one_mem {j : Jar} {ls : List Txt} (h : 0 < ls.length) : L2.atI ls (dipV j ls.length) = some (oneV j ls) ∧ oneV j ls ∈ ls := by
  obtain ⟨h1, h2⟩ := dipV_lt j (m := ls.length) (by omega)
  have e : ls[(dipV j ls.length).toNat]? = some (oneV j ls) := by
    unfold oneV
    rw [List.getD_eq_getElem?_getD, List.getElem?_eq_getElem (by omega)]
    rfl
  refine ⟨?_, List.mem_of_getElem? e⟩
  unfold L2.atI ixN
  rw [if_pos h1, if_pos h2]
  exact e
def prOne : Pr := { A := Addr × Jar × List Txt, ins := fun a => [.par a.1 (cl a.2.1.l), vl a.2.2], pre := fun a => 0 < a.2.2.length ∧ a.2.2.length ≤ 1000, res := fun a => rv (oneV a.2.1 a.2.2), outs := fun a => [(a.1, cl (oneJ a.2.1 a.2.2).l)] }
theorem scOne : FnScope ["jar", "menu"] ["jar", "menu"] (defScope sOne) := ⟨rfl, rfl, rfl, by decide +kernel, rfl, by decide +kernel, by decide +kernel⟩
theorem ok_one {P : Program} {w : World} {K : PySem.W.Frag} {mg : Str → Option Value} {base : Heap} {f : Addr} {fd : FuncData} (F : Fun K "_law_one" "_law_one" sOne f fd) (Fd : Fnc P w K mg base 1 "_law_dip" ["jar", "many"] prDip) (m : Bare mg) : FnG P w K mg base CX0 2 f fd ["jar", "menu"] prOne.sp := by
  refine fn_ok F scOne (fun _ => rfl) (fun _ => rfl) fun cdv A outer s0 H Ee fm a hpre => ?_
  obtain ⟨p, j, ls⟩ := a
  have h0 : 0 < ls.length := hpre.1
  have h1 : ls.length ≤ 1000 := hpre.2
  refine ⟨[.par p (cl (oneJ j ls).l), vl ls], ?_, .ret (ρ := Txt) (b := oneV j ls) ?_⟩
  · intro pc hpc
    rw [List.mem_singleton.mp hpc]
    exact ⟨0, rfl⟩
  exact g_end (g1_ret (x_ixL (xs := ls) (i := dipV j ls.length) fm (x_var fm 1 rfl (fun _ => .inl rfl) rfl) (x_call1 (c' := cl (oneJ j ls).l) fm Fd (fun q => (q, j, (ls.length : Int))) (a_s fm 0 rfl (fun _ => .inl rfl) (.inr ⟨p, rfl⟩) (a_v (x_lenL (xs := ls) fm (x_var fm 1 rfl (fun _ => .inl rfl) rfl) (fun _ => rfl) m.len) a_nil)) (fun _ => ⟨by show (0 : Int) < (ls.length : Int); omega, by show (ls.length : Int) < 1073741824; omega⟩) rfl (.inr ⟨p, rfl⟩) (fun _ => ⟨⟨rfl, rfl, rfl⟩, rfl, trivial⟩) (fun _ => rfl) (fun _ => rfl) (Nat.le_of_ble_eq_true rfl) (fun _ => rfl)) (one_mem h0).1))
/-! ### _law_line -/
abbrev sLine : Stmt := topS 35
def mixT (j : Jar) : Txt := (mixV j (sing abc)).flatten
theorem mix_sgs (j : Jar) : mixV j (sing abc) = sgs (mixT j) ∧ (mixT j).Perm abc := by
  obtain ⟨X, pX, eX⟩ := sgs_of_perm (show (mixV j (sing abc)).Perm (sgs abc) from mixV_perm j (sing abc))
  have e : mixT j = X := by
    unfold mixT
    rw [eX, sgs_flat]
  rw [e]
  exact ⟨eX, pX⟩
def rotV (l : Txt) (p : Int) : Txt := cutL l (some p) none ++ cutL l none (some p)
def turnW (j : Jar) (l : Txt) : Txt := rotV l (dipV j l.length)
def lineW (j : Jar) (l : Txt) : Txt := if dipV (dipJ j l.length) 2 = 0 then turnW j l else (turnW j l).reverse
def lineI (j : Jar) (l : Txt) : Jar := dipJ (dipJ j l.length) 2
def lineV (j : Jar) (l : Txt) : Txt := renV (lineW j l) (mixT (lineI j l))
def lineJ (j : Jar) (l : Txt) : Jar := mixJ (lineI j l) (sing abc)
theorem rotV_nat {l : Txt} {p : Nat} (h : p ≤ l.length) : rotV l (p : Int) = l.drop p ++ l.take p := by
  unfold rotV
  rw [cut_from h, cut_to h]
theorem rotV_perm {l : Txt} {p : Int} (h0 : 0 ≤ p) (h : p ≤ l.length) : (rotV l p).Perm l := by
  obtain ⟨n, rfl⟩ := Int.eq_ofNat_of_zero_le h0
  rw [rotV_nat (by omega)]
  exact List.perm_append_comm.trans (by rw [List.take_append_drop])
theorem lineW_perm {j : Jar} {l : Txt} (h : 0 < l.length) : (lineW j l).Perm l := by
  obtain ⟨h1, h2⟩ := dipV_lt j (m := l.length) (by omega)
  have y : (turnW j l).Perm l := rotV_perm h1 (by omega)
  unfold lineW
  split
  · exact y
  · exact (List.reverse_perm _).trans y
theorem ren_any {o os u : Txt} (g : Proper o os) (hn : u.Nodup) (hu : ∀ c ∈ u, c ∈ abc) (hl : os.length ≤ u.length) : Proper (renV o u) (os.map (swp (firsts o) u)) := by
  have hl2 : (firsts o).length ≤ u.length := by rw [firsts_len g]; exact hl
  have inj : Inj (swp (firsts o) u) os := fun c hc d hd => ren_inj (o := o) hn hl2 c (g.mem.2 hc) d (g.mem.2 hd)
  refine ⟨map_nodup g.1 inj, by rw [List.length_map]; exact g.2.1, by rw [List.length_map]; exact g.2.2.1, fun c hc => ?_, ?_⟩
  · obtain ⟨e, he, rfl⟩ := List.mem_map.mp hc
    exact hu _ (swp_mem (firsts_mem.2 (g.mem.2 he)) hl2)
  · unfold renV
    rw [← List.map_append]
    exact g.2.2.2.2.map _
theorem line_proper {j : Jar} {l ls : Txt} (h : Proper l ls) : ∃ ks, Proper (lineV j l) ks ∧ ks.length = ls.length := by
  have hlen := h.len
  have h1 := h.2.1
  have pw := h.perm (lineW_perm (j := j) (by omega))
  have pm := (mix_sgs (lineI j l)).2
  refine ⟨_, ren_any pw (pm.nodup_iff.mpr (by decide)) (fun c hc => pm.mem_iff.mp hc) ?_, List.length_map _⟩
  rw [pm.length_eq]
  exact h.2.2.1
def prLine : Pr := { A := Addr × Jar × Txt, ins := fun a => [.par a.1 (cl a.2.1.l), vl a.2.2], pre := fun a => ∃ ls, Proper a.2.2 ls, res := fun a => rv (lineV a.2.1 a.2.2), outs := fun a => [(a.1, cl (lineJ a.2.1 a.2.2).l)] }
theorem scLine : FnScope ["jar", "row", "at", "found"] ["jar", "row"] (defScope sLine) := ⟨rfl, rfl, rfl, by decide +kernel, rfl, by decide +kernel, by decide +kernel⟩
theorem ok_line {P : Program} {w : World} {K : PySem.W.Frag} {mg : Str → Option Value} {base : Heap} {f : Addr} {fd : FuncData} (F : Fun K "_law_line" "_law_line" sLine f fd) (Fd : Fnc P w K mg base 1 "_law_dip" ["jar", "many"] prDip) (Fm : Fnc P w K mg base 2 "_law_mixed" ["jar", "menu"] (prMix sing)) (Fr : Fnc P w K mg base 1 "_law_renamed" ["row", "menu"] prRenL) (m : Bare mg) : FnG P w K mg base CX0 3 f fd ["jar", "row"] prLine.sp := by
  refine fn_ok F scLine (fun _ => rfl) (fun _ => rfl) fun cdv A outer s0 H Ee fm a hpre => ?_
  obtain ⟨p, j, l⟩ := a
  obtain ⟨ls, pr⟩ : ∃ ls, Proper l ls := hpre
  have hlen := pr.len
  have h1 := pr.2.1
  have h2 := pr.2.2.1
  have pw := pr.perm (lineW_perm (j := j) (by omega))
  have wl := pw.len
  have fw := firsts_len pw
  have pm := (mix_sgs (lineI j l)).2
  have ml := pm.length_eq
  have ms := (mix_sgs (lineI j l)).1
  have e10 : abc.length = 10 := rfl
  obtain ⟨d1, d2⟩ := dipV_lt j (m := l.length) (by omega)
  have tl : (turnW j l).length = l.length := (rotV_perm d1 (by omega)).length_eq
  obtain ⟨at0, ha⟩ : ∃ x : Int, dipV j l.length = x := ⟨_, rfl⟩
  have et : turnW j l = cutL l (some at0) none ++ cutL l none (some at0) := by rw [← ha]; rfl
  have c1 := cut_le l none (some at0)
  have c2 := cut_le l (some at0) none
  let J (q : Jar) : Wk.Slot := .par p (cl q.l)
  refine ⟨[J (lineJ j l), vl (l : Txt), vl at0, vl (lineW j l : Txt)], ?_, .ret (ρ := Txt) (b := lineV j l) ?_⟩
  · intro pc hpc
    rw [List.mem_singleton.mp hpc]
    exact ⟨0, rfl⟩
  refine g_cons (g1_asg (a := at0) (js := [2]) (sl1 := [J (dipJ j l.length), vl (l : Txt), .no, .no]) (by rw [← ha]; exact (x_call1 (c' := cl (dipJ j l.length).l) fm Fd (fun q => (q, j, (l.length : Int))) (a_s fm 0 rfl (fun _ => .inl rfl) (.inr ⟨p, rfl⟩) (a_v (x_lenS (l := l) fm (x_var fm 1 rfl (fun _ => .inl rfl) rfl) (by omega) (fun _ => rfl) m.len) a_nil)) (fun _ => ⟨by show (0 : Int) < (l.length : Int); omega, by show (l.length : Int) < 1073741824; omega⟩) rfl (.inr ⟨p, rfl⟩) (fun _ => ⟨⟨rfl, rfl, rfl⟩, rfl, trivial⟩) (fun _ => rfl) (fun _ => rfl) (Nat.le_of_ble_eq_true rfl) (fun _ => rfl))) (tg_name fm 2 rfl (fun _ => .inl rfl) (fun _ => .inr rfl))) ?_
  refine g_cons (g1_asg (a := (turnW j l : Txt)) (js := [3]) (sl1 := [J (dipJ j l.length), vl (l : Txt), vl at0, .no]) (by rw [et]; exact x_addS fm (x_slS (l := l) (x_var fm 1 rfl (fun _ => .inl rfl) rfl) (o_some (x_var fm 2 rfl (fun _ => .inl rfl) rfl)) o_none (by omega)) (x_slS (l := l) (x_var fm 1 rfl (fun _ => .inl rfl) rfl) o_none (o_some (x_var fm 2 rfl (fun _ => .inl rfl) rfl)) (by omega)) (by omega)) (tg_name fm 3 rfl (fun _ => .inl rfl) (fun _ => .inr rfl))) ?_
  refine g_cons (g1_asg (a := (lineW j l : Txt)) (js := [3]) (sl1 := [J (lineI j l), vl (l : Txt), vl at0, vl (turnW j l : Txt)]) (x_if (c := decide (dipV (dipJ j l.length) 2 = 0)) (t_eqI fm (x_call1 (c' := cl (lineI j l).l) fm Fd (fun q => (q, dipJ j l.length, 2)) (a_s fm 0 rfl (fun _ => .inl rfl) (.inr ⟨p, rfl⟩) (a_v (x_int fm) a_nil)) (fun _ => ⟨(by decide : (0 : Int) < 2), (by decide : (2 : Int) < 1073741824)⟩) rfl (.inr ⟨p, rfl⟩) (fun _ => ⟨⟨rfl, rfl, rfl⟩, rfl, trivial⟩) (fun _ => rfl) (fun _ => rfl) (Nat.le_of_ble_eq_true rfl) (fun _ => rfl)) (x_int fm)) (fun hc => ?_) (fun hc => ?_)) (tg_name fm 3 rfl (fun _ => .inl rfl) (fun _ => .inr rfl))) ?_
  · have e : lineW j l = turnW j l := if_pos (of_decide_eq_true hc)
    rw [e]
    exact (x_var fm 3 rfl (fun _ => .inl rfl) rfl)
  · have e : lineW j l = (turnW j l).reverse := if_neg (of_decide_eq_false hc)
    rw [e]
    exact x_revS (l := turnW j l) (x_var fm 3 rfl (fun _ => .inl rfl) rfl) (by omega)
  refine g_end (g1_ret (x_call fm Fr (lineW j l, mixT (lineI j l)) (a_v (x_var fm 3 rfl (fun _ => .inl rfl) rfl) (a_v (a := sgs (mixT (lineI j l))) (sl1 := [J (lineJ j l), vl (l : Txt), vl at0, vl (lineW j l : Txt)]) (EN.val fm ?_) a_nil)) ⟨by show (lineW j l).length < 60; omega, by show (mixT (lineI j l)).length < 60; omega, by show (firsts (lineW j l)).length ≤ (mixT (lineI j l)).length; omega⟩ ⟨rfl, rfl, trivial⟩ rfl (Nat.le_of_ble_eq_true rfl) (fun _ => rfl)))
  rw [← ms]
  exact (x_call1N (c' := cl (lineJ j l).l) fm Fm (fun q => (q, lineI j l, abc)) (a_s fm 0 rfl (fun _ => .inl rfl) (.inr ⟨p, rfl⟩) (a_v (x_str fm abc) a_nil)) (fun _ => (by show (sing abc).length < 1000; decide)) rfl (.inr ⟨p, rfl⟩) (fun _ => ⟨⟨rfl, rfl, rfl⟩, rfl, trivial⟩) (fun _ => rfl) (fun _ => rfl) (Nat.le_of_ble_eq_true rfl) (fun _ => rfl))
end Law

namespace Law
open PySem L2 Wk
/-! ### _law_flat_row -/
abbrev sFlat : Stmt := topS 37
abbrev nsFlat : List Str := ["jar", "most", "blocks", "found", "turn", "some", "block"]
abbrev blocksV : List Txt := [[97, 97], [97, 97], [97, 98, 99, 97, 98, 99], [97, 98, 99, 97, 100, 99, 98, 100], [97, 98, 99, 97, 100, 101, 98, 99, 101, 100], [97, 98, 99, 100, 101, 97, 98, 99, 100, 101]]
abbrev bFlat : List Stmt := bodyOf ((defBody sFlat).getD 2 (.Pass ⟨0, 0, 0, 0⟩))
theorem scFlat : FnScope nsFlat ["jar", "most"] (defScope sFlat) := ⟨rfl, rfl, rfl, by decide +kernel, rfl, by decide +kernel, by decide +kernel⟩
/-- the blocks for which there is room -/
def fit0 (m : Int) : List Txt := blocksV.filter fun b => decide ((b.length : Int) ≤ 2 * m)
def fitV (m n : Int) : List Txt := blocksV.filter fun b => decide ((b.length : Int) + n ≤ 2 * m)
def fJ1 (t : Jar × Txt) : Jar := dipJ t.1 t.2.length
def fP (t : Jar × Txt) : Int := dipV t.1 t.2.length
def fB (m : Int) (t : Jar × Txt) : Txt := oneV (fJ1 t) (fitV m t.2.length)
def fJ2 (m : Int) (t : Jar × Txt) : Jar := oneJ (fJ1 t) (fitV m t.2.length)
def flatStep (m : Int) (t : Jar × Txt) : Jar × Txt := if fitV m t.2.length = [] then t else (lineJ (fJ2 m t) (fB m t), putV t.2 (fP t) (lineV (fJ2 m t) (fB m t)))
def flat0 (j : Jar) (m : Int) : Jar × Txt := (lineJ (oneJ j (fit0 m)) (oneV j (fit0 m)), lineV (oneJ j (fit0 m)) (oneV j (fit0 m)))
def flatN : Nat → Int → Jar × Txt → Jar × Txt
  | 0, _, t => t
  | n + 1, m, t => flatN n m (flatStep m t)
def flatT (j : Jar) (m : Int) : Jar × Txt := flatN (dipV (flat0 j m).1 4).toNat m (dipJ (flat0 j m).1 4, (flat0 j m).2)
def flatV (j : Jar) (m : Int) : Txt := lineV (flatT j m).1 (flatT j m).2
def flatJ (j : Jar) (m : Int) : Jar := lineJ (flatT j m).1 (flatT j m).2
theorem flat_fold (m : Int) : ∀ (xs : List Int) (t : Jar × Txt), xs.foldl (fun t (_ : Int) => flatStep m t) t = flatN xs.length m t
  | [], _ => rfl
  | _ :: xs, t => flat_fold m xs (flatStep m t)
theorem block_proper {b : Txt} (h : b ∈ blocksV) : ∃ ls, Proper b ls := by
  have key : ∀ b ∈ blocksV, (ups b).Nodup ∧ 1 ≤ (ups b).length ∧ (ups b).length ≤ 10 ∧ (∀ c ∈ ups b, c ∈ abc) ∧ ∀ c ∈ abc, b.count c = (ups b ++ ups b).count c := by decide +kernel
  obtain ⟨h1, h2, h3, h4, h5⟩ := key b h
  refine ⟨ups b, h1, h2, h3, h4, List.perm_iff_count.mpr fun c => ?_⟩
  by_cases hc : c ∈ abc
  · exact h5 c hc
  · have a1 : c ∉ ups b := fun y => hc (h4 c y)
    have a2 : c ∉ b := fun y => a1 (ups_mem.2 y)
    rw [List.count_eq_zero_of_not_mem a2, List.count_append, List.count_eq_zero_of_not_mem a1]
theorem block_low : ∀ b ∈ blocksV, Low b := fun b hb => (show ∀ b ∈ blocksV, b.all (· < 128) = true by decide) b hb
theorem fit0_mem {m : Int} {b : Txt} (h : b ∈ fit0 m) : b ∈ blocksV ∧ (b.length : Int) ≤ 2 * m := by
  obtain ⟨h1, h2⟩ := List.mem_filter.mp h
  exact ⟨h1, of_decide_eq_true h2⟩
theorem fit_mem {m n : Int} {b : Txt} (h : b ∈ fitV m n) : b ∈ blocksV ∧ (b.length : Int) + n ≤ 2 * m := by
  obtain ⟨h1, h2⟩ := List.mem_filter.mp h
  exact ⟨h1, of_decide_eq_true h2⟩
theorem fit0_pos {m : Int} (h : 1 ≤ m) : 0 < (fit0 m).length := List.length_pos_of_mem (a := [97, 97]) (List.mem_filter.mpr ⟨by decide, decide_eq_true (by show (2 : Int) ≤ 2 * m; omega)⟩)
theorem fit0_len (m : Int) : (fit0 m).length ≤ 6 := List.length_filter_le _ _
theorem fit_len (m n : Int) : (fitV m n).length ≤ 6 := List.length_filter_le _ _
def FInv (m : Int) (t : Jar × Txt) : Prop := ∃ ls, Proper t.2 ls ∧ (ls.length : Int) ≤ m
theorem flat0_inv {j : Jar} {m : Int} (h : 1 ≤ m) : FInv m (flat0 j m) ∧ ∃ ls, Proper (oneV j (fit0 m)) ls := by
  obtain ⟨h1, h2⟩ := one_mem (j := j) (fit0_pos h)
  obtain ⟨h3, h4⟩ := fit0_mem h2
  obtain ⟨ls, pr⟩ := block_proper h3
  obtain ⟨ks, pk, ek⟩ := line_proper (j := oneJ j (fit0 m)) pr
  have hl := pr.len
  exact ⟨⟨ks, pk, by omega⟩, ls, pr⟩
theorem flat_facts {m : Int} {t : Jar × Txt} (hm : m ≤ 10) (iv : FInv m t) (h : fitV m t.2.length ≠ []) : (∃ bs, Proper (fB m t) bs) ∧ (∃ os, Proper (lineV (fJ2 m t) (fB m t)) os ∧ (firsts (lineV (fJ2 m t) (fB m t))).length ≤ (freshV t.2).length) ∧ (0 ≤ fP t ∧ fP t < t.2.length) ∧ FInv m (lineJ (fJ2 m t) (fB m t), putV t.2 (fP t) (lineV (fJ2 m t) (fB m t))) := by
  obtain ⟨ls, pr, hl⟩ := iv
  have lt := pr.len
  have l1 := pr.2.1
  have hp : 0 < (fitV m t.2.length).length := List.length_pos_iff.mpr h
  obtain ⟨h1, h2⟩ := one_mem (j := fJ1 t) hp
  change fB m t ∈ _ at h2
  obtain ⟨h3, h4⟩ := fit_mem h2
  obtain ⟨bs, pb⟩ := block_proper h3
  obtain ⟨os, po, eo⟩ := line_proper (j := fJ2 m t) pb
  have lb := pb.len
  have d : 0 ≤ fP t ∧ fP t < t.2.length := dipV_lt t.1 (m := t.2.length) (by omega)
  have hs : ls.length + os.length ≤ 10 := by omega
  refine ⟨⟨bs, pb⟩, ⟨os, po, put_room pr po hs⟩, d, ?_⟩
  obtain ⟨n, en⟩ := Int.eq_ofNat_of_zero_le d.1
  rw [en]
  refine ⟨_, put_proper pr po hs (by omega), ?_⟩
  rw [List.length_append, List.length_map]
  omega
theorem flatStep_inv {m : Int} {t : Jar × Txt} (hm : m ≤ 10) (iv : FInv m t) : FInv m (flatStep m t) := by
  unfold flatStep
  split
  · exact iv
  · rename_i h
    exact (flat_facts hm iv h).2.2.2
theorem flatN_inv {m : Int} (hm : m ≤ 10) : ∀ (n : Nat) {t : Jar × Txt}, FInv m t → FInv m (flatN n m t)
  | 0, _, h => h
  | n + 1, _, h => flatN_inv hm n (flatStep_inv hm h)
theorem flatT_inv {j : Jar} {m : Int} (h : 1 ≤ m) (hm : m ≤ 10) : FInv m (flatT j m) := by
  have iv := (flat0_inv (j := j) h).1
  unfold flatT
  generalize flat0 j m = t at iv
  obtain ⟨ls, pr, hl⟩ := iv
  exact flatN_inv hm _ ⟨ls, pr, hl⟩
theorem flat_proper {j : Jar} {m : Int} (h : 1 ≤ m) (hm : m ≤ 10) : ∃ ls, Proper (flatV j m) ls ∧ (ls.length : Int) ≤ m := by
  obtain ⟨ls, pr, hl⟩ := flatT_inv (j := j) h hm
  obtain ⟨ks, pk, ek⟩ := line_proper (j := (flatT j m).1) pr
  exact ⟨ks, pk, by omega⟩
theorem flat_turn {P : Program} {w : World} {K : PySem.W.Frag} {mg : Str → Option Value} {base : Heap} {f : Addr} (Fd : Fnc P w K mg base 1 "_law_dip" ["jar", "many"] prDip) (Fo : Fnc P w K mg base 2 "_law_one" ["jar", "menu"] prOne) (Fl : Fnc P w K mg base 3 "_law_line" ["jar", "row"] prLine) (Fp : Fnc P w K mg base 2 "_law_put" ["row", "at", "other"] prPut) (m : Bare mg) {cdv : Value} {A : Around} {outer : List Env} {s0 : Shared} {H : Hp} {Ee : XK}
    (fm : Fam (cX P w K mg base nsFlat "_law_flat_row" sFlat f cdv A outer s0 H Ee) ⟨P, w, K, mg, base, nsFlat, 3⟩) (p : Addr) (M x : Int) (hM : M ≤ 10) (t : Jar × Txt) (iv : FInv M t) :
    ∃ s1, G (cX P w K mg base nsFlat "_law_flat_row" sFlat f cdv A outer s0 H Ee) bFlat [.par p (cl t.1.l), vl M, vl blocksV, vl (t.2 : Txt), vl x, .no, .no] (.next s1 : Out Txt) ∧ Wks s1 [.par p (cl (flatStep M t).1.l), vl M, vl blocksV, vl ((flatStep M t).2 : Txt), .no, .no, .no] := by
  obtain ⟨j, l⟩ := t
  obtain ⟨ls, pr, hls⟩ := id iv
  change Proper l ls at pr
  have hlen := pr.len
  have h2 := pr.2.2.1
  have h1 := pr.2.1
  let J (q : Jar) : Wk.Slot := .par p (cl q.l)
  obtain ⟨so, hso⟩ : ∃ so : List Txt, fitV M l.length = so := ⟨_, rfl⟩
  have hle : so.length ≤ 6 := hso ▸ fit_len _ _
  have hlow : ∀ b ∈ so, Low b := fun b hb => block_low b (fit_mem (hso ▸ hb)).1
  obtain ⟨r, hr⟩ : ∃ r : Jar × Txt, flatStep M (j, l) = r := ⟨_, rfl⟩
  rw [hr]
  refine ⟨[J r.1, vl M, vl blocksV, vl (r.2 : Txt), vl x, vl so, .no], ?_, ⟨.inl rfl, .inl rfl, .inl rfl, .inl rfl, .inr rfl, .inr rfl, .inl rfl, trivial⟩⟩
  refine g_cons (g1_lcN (y := "block") (sl1 := [J j, vl M, vl blocksV, vl (l : Txt), vl x, .no, .no]) 5 6 fm (xs := blocksV) (fun b : Txt => decide ((b.length : Int) + (l.length : Int) ≤ 2 * M)) id rfl (fun _ => rfl) (src_list (xs := blocksV) fm (x_var fm 2 rfl (fun _ => .inl rfl) rfl)) (fun _ => blkOk_by (N := nsFlat) (sc := defScope sFlat) (by decide +kernel)) rfl (fun _ => .inl rfl) (fun _ => .inr rfl) rfl (by decide) (fun b hb => ⟨?_, fun _ => ?_⟩)) ?_
  · have hb2 : b.length ≤ 16777216 := (show ∀ b ∈ blocksV, b.length ≤ 16777216 by decide) b hb
    exact ti_one (t_le (fm.blk _) (x_add (fm.blk _) (x_lenS (l := b) (fm.blk _) (x_var (fm.blk _) 6 rfl (fun _ => .inl rfl) rfl) hb2 (fun _ => rfl) m.len) (x_lenS (l := l) (fm.blk _) (x_var (fm.blk _) 3 rfl (fun _ => .inr (.inl rfl)) rfl) (by omega) (fun _ => rfl) m.len)) (x_mul (i := 2) (j := M) (fm.blk _) (x_int (fm.blk _)) (x_var (fm.blk _) 1 rfl (fun _ => .inr (.inl rfl)) rfl) (.inl (by decide))))
  · exact (x_var (fm.blk _) 6 rfl (fun _ => .inl rfl) rfl)
  have ef : (blocksV.filter fun b : Txt => decide ((b.length : Int) + (l.length : Int) ≤ 2 * M)).map id = so := by
    rw [List.map_id]
    exact hso
  rw [ef]
  refine g_frz 5 (xs := so) rfl ?_
  show G _ _ [J j, vl M, vl blocksV, vl (l : Txt), vl x, vl so, .no] _
  refine g_one (g1_if (sl1 := [J j, vl M, vl blocksV, vl (l : Txt), vl x, vl so, .no]) (b := !decide (so = [])) ?_ (fun hb => ?_) (fun hb => ?_))
  · exact t_neD (a := so) (b := ([] : List Txt)) fm (x_var fm 5 rfl (fun _ => .inl rfl) rfl) (EN.val fm (x_list (xs := ([] : List Txt)) a_nil (by decide))) (fine_strs hlow) (fine_strs fun l hl => by cases hl)
  · have hne : fitV M (j, l).2.length ≠ [] := by
      show fitV M l.length ≠ []
      rw [hso]
      simpa using hb
    obtain ⟨⟨bs, pb⟩, ⟨os, po, room⟩, ⟨d1, d2⟩, _⟩ := flat_facts hM iv hne
    have e : r = (lineJ (fJ2 M (j, l)) (fB M (j, l)), putV l (fP (j, l)) (lineV (fJ2 M (j, l)) (fB M (j, l)))) := by
      rw [← hr]
      exact if_neg hne
    have lo := po.len
    have lo2 := po.2.2.1
    have e2 : fB M (j, l) = oneV (fJ1 (j, l)) so := by rw [← hso]; rfl
    have e3 : fJ2 M (j, l) = oneJ (fJ1 (j, l)) so := by rw [← hso]; rfl
    rw [e3, e2] at e po room
    rw [e2] at pb
    have hso0 : 0 < so.length := by
      rw [← hso]
      exact List.length_pos_iff.mpr hne
    obtain ⟨b, hb0⟩ : ∃ b : Txt, oneV (fJ1 (j, l)) so = b := ⟨_, rfl⟩
    obtain ⟨j1, hj1⟩ : ∃ j1 : Jar, fJ1 (j, l) = j1 := ⟨_, rfl⟩
    rw [hb0, hj1] at e po room
    rw [hb0] at pb
    rw [hj1] at hb0
    obtain ⟨j2, hj2⟩ : ∃ j2 : Jar, oneJ j1 so = j2 := ⟨_, rfl⟩
    rw [hj2] at e po room
    have lv := po.len
    rw [e]
    refine g_one (g1_asg (a := (putV l (fP (j, l)) (lineV j2 b) : Txt)) (js := [3]) (sl1 := [J (lineJ j2 b), vl M, vl blocksV, vl (l : Txt), vl x, vl so, .no]) (x_call fm Fp (l, fP (j, l), lineV j2 b) (a_v (a := (l : Txt)) (x_var fm 3 rfl (fun _ => .inr (.inl rfl)) rfl) (a_v (a := fP (j, l)) (sl1 := [J j1, vl M, vl blocksV, vl (l : Txt), vl x, vl so, .no]) ?_ (a_v (a := (lineV j2 b : Txt)) (sl1 := [J (lineJ j2 b), vl M, vl blocksV, vl (l : Txt), vl x, vl so, .no]) (x_call1 (c' := cl (lineJ j2 b).l) fm Fl (fun q => (q, j2, b)) (a_s fm 0 rfl (fun _ => .inl rfl) (.inr ⟨p, rfl⟩) (a_v (a := (b : Txt)) (sl1 := [J j2, vl M, vl blocksV, vl (l : Txt), vl x, vl so, .no]) ?_ a_nil)) (fun _ => ⟨bs, pb⟩) rfl (.inr ⟨p, rfl⟩) (fun _ => ⟨⟨rfl, rfl, rfl⟩, rfl, trivial⟩) (fun _ => rfl) (fun _ => rfl) (Nat.le_of_ble_eq_true rfl) (fun _ => rfl)) a_nil))) ⟨by show l.length < 60; omega, by show (lineV j2 b).length < 60; omega, room⟩ ⟨rfl, rfl, rfl, trivial⟩ rfl (Nat.le_of_ble_eq_true rfl) (fun _ => rfl)) (tg_name fm 3 rfl (fun _ => .inr rfl) (fun _ => .inl rfl)))
    · rw [← hj1]
      exact (x_call1 (c' := cl (fJ1 (j, l)).l) fm Fd (fun q => (q, j, (l.length : Int))) (a_s fm 0 rfl (fun _ => .inl rfl) (.inr ⟨p, rfl⟩) (a_v (x_lenS (l := l) fm (x_var fm 3 rfl (fun _ => .inr (.inl rfl)) rfl) (by omega) (fun _ => rfl) m.len) a_nil)) (fun _ => ⟨by show (0 : Int) < (l.length : Int); omega, by show (l.length : Int) < 1073741824; omega⟩) rfl (.inr ⟨p, rfl⟩) (fun _ => ⟨⟨rfl, rfl, rfl⟩, rfl, trivial⟩) (fun _ => rfl) (fun _ => rfl) (Nat.le_of_ble_eq_true rfl) (fun _ => rfl))
    · rw [← hb0, ← hj2]
      exact (x_call1 (c' := cl (oneJ j1 so).l) fm Fo (fun q => (q, j1, so)) (a_s fm 0 rfl (fun _ => .inl rfl) (.inr ⟨p, rfl⟩) (a_v (a := so) (x_var fm 5 rfl (fun _ => .inl rfl) rfl) a_nil)) (fun _ => ⟨hso0, by show so.length ≤ 1000; omega⟩) rfl (.inr ⟨p, rfl⟩) (fun _ => ⟨⟨rfl, rfl, rfl⟩, rfl, trivial⟩) (fun _ => rfl) (fun _ => rfl) (Nat.le_of_ble_eq_true rfl) (fun _ => rfl))
  · have e0 : fitV M l.length = [] := by
      rw [hso]
      simpa using hb
    have e : r = (j, l) := by
      rw [← hr]
      exact if_pos e0
    rw [e]
    exact g_nil
def prFlat : Pr := { A := Addr × Jar × Int, ins := fun a => [.par a.1 (cl a.2.1.l), vl a.2.2], pre := fun a => 1 ≤ a.2.2 ∧ a.2.2 ≤ 10, res := fun a => rv (flatV a.2.1 a.2.2), outs := fun a => [(a.1, cl (flatJ a.2.1 a.2.2).l)] }
theorem ok_flat {P : Program} {w : World} {K : PySem.W.Frag} {mg : Str → Option Value} {base : Heap} {f : Addr} {fd : FuncData} (F : Fun K "_law_flat_row" "_law_flat_row" sFlat f fd) (Fd : Fnc P w K mg base 1 "_law_dip" ["jar", "many"] prDip) (Fo : Fnc P w K mg base 2 "_law_one" ["jar", "menu"] prOne) (Fl : Fnc P w K mg base 3 "_law_line" ["jar", "row"] prLine) (Fp : Fnc P w K mg base 2 "_law_put" ["row", "at", "other"] prPut) (m : Bare mg) : FnG P w K mg base CX0 4 f fd ["jar", "most"] prFlat.sp := by
  refine fn_ok F scFlat (fun _ => rfl) (fun _ => rfl) fun cdv A outer s0 H Ee fm a hpre => ?_
  obtain ⟨p, j, M⟩ := a
  obtain ⟨h1, hM⟩ : 1 ≤ M ∧ M ≤ 10 := hpre
  obtain ⟨iv0, bs, pb⟩ := flat0_inv (j := j) h1
  have ivT := flatT_inv (j := j) h1 hM
  obtain ⟨ts, pt, _⟩ := id ivT
  have fpos := fit0_pos h1
  have flen := fit0_len M
  let J (q : Jar) : Wk.Slot := .par p (cl q.l)
  obtain ⟨n, hn⟩ : ∃ n : Int, dipV (flat0 j M).1 4 = n := ⟨_, rfl⟩
  obtain ⟨d1, d2⟩ := dipV_lt (flat0 j M).1 (m := 4) (by decide)
  rw [hn] at d1 d2
  obtain ⟨t0, ht0⟩ : ∃ t0 : Jar × Txt, flat0 j M = t0 := ⟨_, rfl⟩
  obtain ⟨T, hT⟩ : ∃ T : Jar × Txt, flatT j M = T := ⟨_, rfl⟩
  have eT : flatN n.toNat M (dipJ t0.1 4, t0.2) = T := by
    rw [← hT, ← hn, ← ht0]
    rfl
  rw [hT] at ivT pt
  have eV : flatV j M = lineV T.1 T.2 := by rw [← hT]; rfl
  have eJ : flatJ j M = lineJ T.1 T.2 := by rw [← hT]; rfl
  refine ⟨[J (lineJ T.1 T.2), vl M, vl blocksV, vl (T.2 : Txt), .no, .no, .no], ?_, ?_⟩
  · intro pc hpc
    rw [List.mem_singleton.mp hpc]
    refine ⟨0, ?_⟩
    show some _ = some _
    dsimp only
    rw [eJ]
  show BodyOk _ _ _ (rv (flatV j M)) _
  rw [eV]
  let St : Jar × Txt → List Wk.Slot := fun t => [J t.1, vl M, vl blocksV, vl (t.2 : Txt), .no, .no, .no]
  refine .ret (ρ := Txt) (b := lineV T.1 T.2) (g_cons (g1_asg (a := blocksV) (js := [2]) (sl1 := [J j, vl M, .no, .no, .no, .no, .no]) (EN.val fm (x_list (xs := blocksV) (a_v (x_str fm [97, 97]) (a_v (x_str fm [97, 97]) (a_v (x_str fm [97, 98, 99, 97, 98, 99]) (a_v (x_str fm [97, 98, 99, 97, 100, 99, 98, 100]) (a_v (x_str fm [97, 98, 99, 97, 100, 101, 98, 99, 101, 100]) (a_v (x_str fm [97, 98, 99, 100, 101, 97, 98, 99, 100, 101]) a_nil)))))) (by show 6 ≤ 16777216; decide))) (tg_name fm 2 rfl (fun _ => .inl rfl) (fun _ => .inr rfl))) ?_)
  have e0 : t0.2 = lineV (oneJ j (fit0 M)) (oneV j (fit0 M)) := by rw [← ht0]; rfl
  have e1 : t0.1 = lineJ (oneJ j (fit0 M)) (oneV j (fit0 M)) := by rw [← ht0]; rfl
  obtain ⟨b, hb⟩ : ∃ b : Txt, oneV j (fit0 M) = b := ⟨_, rfl⟩
  obtain ⟨j1, hj1⟩ : ∃ j1 : Jar, oneJ j (fit0 M) = j1 := ⟨_, rfl⟩
  rw [hb, hj1] at e0 e1
  rw [hb] at pb
  refine g_cons (g1_asg (a := (t0.2 : Txt)) (js := [3]) (sl1 := [J t0.1, vl M, vl blocksV, .no, .no, .no, .no]) ?line (tg_name fm 3 rfl (fun _ => .inr rfl) (fun _ => .inl rfl))) ?_
  case line =>
    rw [e0, e1]
    refine x_call1 (c' := cl (lineJ j1 b).l) fm Fl (fun q => (q, j1, b)) (a_s fm 0 rfl (fun _ => .inl rfl) (.inr ⟨p, rfl⟩) (a_v (a := (b : Txt)) (sl1 := [J j1, vl M, vl blocksV, .no, .no, .no, .no]) ?_ a_nil)) (fun _ => ⟨bs, pb⟩) rfl (.inr ⟨p, rfl⟩) (fun _ => ⟨⟨rfl, rfl, rfl⟩, rfl, trivial⟩) (fun _ => rfl) (fun _ => rfl) (Nat.le_of_ble_eq_true rfl) (fun _ => rfl)
    rw [← hb, ← hj1]
    refine x_call1 (c' := cl (oneJ j (fit0 M)).l) fm Fo (fun q => (q, j, fit0 M)) (a_s fm 0 rfl (fun _ => .inl rfl) (.inr ⟨p, rfl⟩) (a_v (a := fit0 M) (sl1 := [J j, vl M, vl blocksV, .no, .no, .no, .no]) ?_ a_nil)) (fun _ => ⟨fpos, by show (fit0 M).length ≤ 1000; omega⟩) rfl (.inr ⟨p, rfl⟩) (fun _ => ⟨⟨rfl, rfl, rfl⟩, rfl, trivial⟩) (fun _ => rfl) (fun _ => rfl) (Nat.le_of_ble_eq_true rfl) (fun _ => rfl)
    have ef : (blocksV.filter fun b : Txt => decide ((b.length : Int) ≤ 2 * M)).map id = fit0 M := List.map_id _
    rw [← ef]
    refine EN.val fm (x_lcN (y := "block") 6 fm (xs := blocksV) (fun b : Txt => decide ((b.length : Int) ≤ 2 * M)) id (src_list (xs := blocksV) fm (x_var fm 2 rfl (fun _ => .inl rfl) rfl)) (fun _ => blkOk_by (N := nsFlat) (sc := defScope sFlat) (by decide +kernel)) rfl (fun _ => .inl rfl) (fun _ => .inr rfl) rfl (by decide) (fun b hb => ⟨?_, fun _ => ?_⟩))
    · have hb2 : b.length ≤ 16777216 := (show ∀ b ∈ blocksV, b.length ≤ 16777216 by decide) b hb
      exact ti_one (t_le (fm.blk _) (x_lenS (l := b) (fm.blk _) (x_var (fm.blk _) 6 rfl (fun _ => .inl rfl) rfl) hb2 (fun _ => rfl) m.len) (x_mul (i := 2) (j := M) (fm.blk _) (x_int (fm.blk _)) (x_var (fm.blk _) 1 rfl (fun _ => .inr (.inl rfl)) rfl) (.inl (by decide))))
    · exact (x_var (fm.blk _) 6 rfl (fun _ => .inl rfl) rfl)
  show G _ _ (St t0) _
  refine g_cons (g1_forN (xs := (List.range n.toNat).map fun k : Nat => (k : Int)) (sl1 := St (dipJ t0.1 4, t0.2)) fm St (dipJ t0.1 4, t0.2) T (fun y t => (St t).set 4 (vl y)) (fun t (_ : Int) => flatStep M t) (fun _ t => FInv M t) ?src (Wks.refl _) ?inv ?fold (fun y t => tg_name fm 4 rfl (fun _ => .inl rfl) (fun _ => .inr rfl)) (fun i t y hy iv => ?_)) ?_
  case src =>
    refine src_range1 (n := n) fm ?_ (fun _ => rfl) m.range (by omega)
    rw [← hn, ht0]
    exact (x_call1 (c' := cl (dipJ t0.1 4).l) fm Fd (fun q => (q, t0.1, 4)) (a_s fm 0 rfl (fun _ => .inl rfl) (.inr ⟨p, rfl⟩) (a_v (x_int fm) a_nil)) (fun _ => ⟨(by decide : (0 : Int) < 4), (by decide : (4 : Int) < 1073741824)⟩) rfl (.inr ⟨p, rfl⟩) (fun _ => ⟨⟨rfl, rfl, rfl⟩, rfl, trivial⟩) (fun _ => rfl) (fun _ => rfl) (Nat.le_of_ble_eq_true rfl) (fun _ => rfl))
  case inv =>
    rw [ht0] at iv0
    exact iv0
  case fold =>
    rw [flat_fold, List.length_map, List.length_range]
    exact eT
  · obtain ⟨s1, k1, k2⟩ := flat_turn Fd Fo Fl Fp m fm p M y hM t iv
    exact ⟨⟨s1, .inl k1, k2⟩, flatStep_inv hM iv⟩
  · exact g_end (g1_ret (x_call1 (c' := cl (lineJ T.1 T.2).l) fm Fl (fun q => (q, T.1, T.2)) (a_s fm 0 rfl (fun _ => .inl rfl) (.inr ⟨p, rfl⟩) (a_v (a := (T.2 : Txt)) (x_var fm 3 rfl (fun _ => .inr (.inl rfl)) rfl) a_nil)) (fun _ => ⟨ts, pt⟩) rfl (.inr ⟨p, rfl⟩) (fun _ => ⟨⟨rfl, rfl, rfl⟩, rfl, trivial⟩) (fun _ => rfl) (fun _ => rfl) (Nat.le_of_ble_eq_true rfl) (fun _ => rfl)))
end Law

namespace Law
open PySem L2 Wk
/-! ### _law_row -/
abbrev sLRow : Stmt := topS 38
def rlM (j : Jar) (m : Int) : Int := 1 + dipV j m
def rlW (j : Jar) (m : Int) : Int := dipV (dipJ j m) 4
def rlJ (j : Jar) (m : Int) : Jar := dipJ (dipJ j m) 4
def rlF (j : Jar) (m : Int) : Txt := flatV (rlJ j m) (rlM j m)
def rlK (j : Jar) (m : Int) : Jar := flatJ (rlJ j m) (rlM j m)
/-- a letter elsewhere -/
def moveV (l : Txt) (a t : Int) : Txt :=
  let r := cutL l none (some a) ++ cutL l (some (a + 1)) none
  cutL r none (some t) ++ [l.getD a.toNat 0] ++ cutL r (some t) none
def mvV (j : Jar) (l : Txt) : Txt := moveV l (dipV j l.length) (dipV (dipJ j l.length) l.length)
def mvJ (j : Jar) (l : Txt) : Jar := dipJ (dipJ j l.length) l.length
def rowLV (j : Jar) (m : Int) : Txt := if rlW j m = 0 then rowV (rlJ j m) (rlM j m) else if rlW j m = 1 then mvV (rlK j m) (rlF j m) else rlF j m
def rowLJ (j : Jar) (m : Int) : Jar := if rlW j m = 0 then rowJ (rlJ j m) (rlM j m) else if rlW j m = 1 then mvJ (rlK j m) (rlF j m) else rlK j m
theorem move_perm {l : Txt} {a t : Nat} (ha : a < l.length) (ht : t < l.length) : (moveV l a t).Perm l ∧ cutL l (some ((a : Int) + 1)) none = l.drop (a + 1) ∧ cutL l none (some (a : Int)) = l.take a := by
  have e1 : cutL l none (some (a : Int)) = l.take a := cut_to (by omega)
  have e2 : cutL l (some ((a : Int) + 1)) none = l.drop (a + 1) := cut_from (n := a + 1) (by omega)
  refine ⟨?_, e2, e1⟩
  unfold moveV
  dsimp only
  rw [e1, e2]
  have lr : (l.take a ++ l.drop (a + 1)).length + 1 = l.length := by
    rw [List.length_append, List.length_take, List.length_drop]
    omega
  rw [cut_to (n := t) (by omega), cut_from (n := t) (by omega), Int.toNat_natCast, List.getD_eq_getElem?_getD, List.getElem?_eq_getElem ha]
  show ((l.take a ++ l.drop (a + 1)).take t ++ [l[a]] ++ (l.take a ++ l.drop (a + 1)).drop t).Perm l
  have p1 : ((l.take a ++ l.drop (a + 1)).take t ++ [l[a]] ++ (l.take a ++ l.drop (a + 1)).drop t).Perm ([l[a]] ++ (l.take a ++ l.drop (a + 1))) := by
    have y := (List.perm_append_comm (l₁ := (l.take a ++ l.drop (a + 1)).take t) (l₂ := [l[a]])).append_right ((l.take a ++ l.drop (a + 1)).drop t)
    rw [List.append_assoc, List.append_assoc, List.take_append_drop] at y
    rw [List.append_assoc]
    exact y
  have p2 : ([l[a]] ++ (l.take a ++ l.drop (a + 1))).Perm (l.take a ++ ([l[a]] ++ l.drop (a + 1))) := by
    rw [← List.append_assoc, ← List.append_assoc]
    exact List.perm_append_comm.append_right _
  have e3 : l.take a ++ ([l[a]] ++ l.drop (a + 1)) = l := by
    show l.take a ++ l[a] :: l.drop (a + 1) = l
    rw [List.getElem_cons_drop, List.take_append_drop]
  exact p1.trans (p2.trans (List.Perm.of_eq e3))
theorem mv_perm {j : Jar} {l : Txt} (h : 0 < l.length) : (mvV j l).Perm l := by
  obtain ⟨a0, a1⟩ := dipV_lt j (m := l.length) (by omega)
  obtain ⟨t0, t1⟩ := dipV_lt (dipJ j l.length) (m := l.length) (by omega)
  unfold mvV
  obtain ⟨a, ea⟩ := Int.eq_ofNat_of_zero_le a0
  obtain ⟨t, et⟩ := Int.eq_ofNat_of_zero_le t0
  rw [ea, et]
  exact (move_perm (by omega) (by omega)).1
theorem rlM_ok {j : Jar} {m : Int} (h : 1 ≤ m) : 1 ≤ rlM j m ∧ rlM j m ≤ m := by
  obtain ⟨h1, h2⟩ := dipV_lt j (m := m) (by omega)
  unfold rlM
  omega
theorem rowL_proper {j : Jar} {m : Int} (h : 1 ≤ m) (hm : m ≤ 10) : ∃ ls, Proper (rowLV j m) ls ∧ (ls.length : Int) ≤ m := by
  obtain ⟨m1, m2⟩ := rlM_ok (j := j) h
  obtain ⟨ls, pr, hl⟩ : ∃ ls, Proper (rlF j m) ls ∧ (ls.length : Int) ≤ rlM j m := flat_proper (j := rlJ j m) m1 (by omega)
  unfold rowLV
  split
  · obtain ⟨ks, pk, hk⟩ := rowV_proper (rlJ j m) (rlM j m) m1 (by omega)
    exact ⟨ks, pk, by omega⟩
  · split
    · have := pr.len
      have := pr.2.1
      exact ⟨ls, pr.perm (mv_perm (by omega)), by omega⟩
    · exact ⟨ls, pr, by omega⟩
def prLRow : Pr := { A := Addr × Jar × Int, ins := fun a => [.par a.1 (cl a.2.1.l), vl a.2.2], pre := fun a => 1 ≤ a.2.2 ∧ a.2.2 ≤ 10, res := fun a => rv (rowLV a.2.1 a.2.2), outs := fun a => [(a.1, cl (rowLJ a.2.1 a.2.2).l)] }
theorem scLRow : FnScope ["jar", "most", "many", "way", "found", "at", "rest", "to"] ["jar", "most"] (defScope sLRow) := ⟨rfl, rfl, rfl, by decide +kernel, rfl, by decide +kernel, by decide +kernel⟩
theorem ok_lrow {P : Program} {w : World} {K : PySem.W.Frag} {mg : Str → Option Value} {base : Heap} {f : Addr} {fd : FuncData} (F : Fun K "_law_row" "_law_row" sLRow f fd) (Fd : Fnc P w K mg base 1 "_law_dip" ["jar", "many"] prDip) (Fa : Fnc P w K mg base 3 "_law_any_row" ["jar", "many"] prRow) (Ff : Fnc P w K mg base 4 "_law_flat_row" ["jar", "most"] prFlat) (m : Bare mg) : FnG P w K mg base CX0 5 f fd ["jar", "most"] prLRow.sp := by
  refine fn_ok F scLRow (fun _ => rfl) (fun _ => rfl) fun cdv A outer s0 H Ee fm a hpre => ?_
  obtain ⟨p, j, M⟩ := a
  obtain ⟨h1, hM⟩ : 1 ≤ M ∧ M ≤ 10 := hpre
  obtain ⟨n1, n2⟩ := rlM_ok (j := j) h1
  obtain ⟨fs, pf, hf⟩ : ∃ ls, Proper (rlF j M) ls ∧ (ls.length : Int) ≤ rlM j M := flat_proper (j := rlJ j M) n1 (by omega)
  let J (q : Jar) : Wk.Slot := .par p (cl q.l)
  obtain ⟨N, hN⟩ : ∃ N : Int, rlM j M = N := ⟨_, rfl⟩
  obtain ⟨W, hW⟩ : ∃ W : Int, rlW j M = W := ⟨_, rfl⟩
  obtain ⟨j2, hj2⟩ : ∃ j2 : Jar, rlJ j M = j2 := ⟨_, rfl⟩
  obtain ⟨l, hl⟩ : ∃ l : Txt, rlF j M = l := ⟨_, rfl⟩
  obtain ⟨j3, hj3⟩ : ∃ j3 : Jar, rlK j M = j3 := ⟨_, rfl⟩
  have eF : flatV j2 N = l := by rw [← hl, ← hj2, ← hN]; rfl
  have eK : flatJ j2 N = j3 := by rw [← hj3, ← hj2, ← hN]; rfl
  have eV : rowLV j M = if W = 0 then rowV j2 N else if W = 1 then mvV j3 l else l := by
    unfold rowLV
    rw [hW, hj2, hN, hj3, hl]
  have eJ : rowLJ j M = if W = 0 then rowJ j2 N else if W = 1 then mvJ j3 l else j3 := by
    unfold rowLJ
    rw [hW, hj2, hN, hj3, hl]
  rw [hl] at pf
  rw [hN] at n1 n2 hf
  have lf := pf.len
  have lf1 := pf.2.1
  have lf2 := pf.2.2.1
  -- many, way
  have step1 : ∀ {r : Out Txt} {rest : List Stmt}, G (cX P w K mg base ["jar", "most", "many", "way", "found", "at", "rest", "to"] "_law_row" sLRow f cdv A outer s0 H Ee) rest [J j2, vl M, vl N, vl W, .no, .no, .no, .no] r → G (cX P w K mg base ["jar", "most", "many", "way", "found", "at", "rest", "to"] "_law_row" sLRow f cdv A outer s0 H Ee) ((defBody sLRow).take 1 ++ rest) [J j, vl M, .no, .no, .no, .no, .no, .no] r := by
    intro r rest h
    refine g_cons (g1_par2v (a := N) (b := W) (sl2 := [J j2, vl M, .no, .no, .no, .no, .no, .no]) fm 2 3 (a_v (a := N) (sl1 := [J (dipJ j M), vl M, .no, .no, .no, .no, .no, .no]) ?_ (a_v (a := W) (sl1 := [J j2, vl M, .no, .no, .no, .no, .no, .no]) ?_ a_nil)) rfl rfl (by decide) (fun _ => rfl) (fun _ => rfl)) h
    · rw [← hN]
      exact x_add fm (x_int fm) (x_call1 (c' := cl (dipJ j M).l) fm Fd (fun q => (q, j, M)) (a_s fm 0 rfl (fun _ => .inl rfl) (.inr ⟨p, rfl⟩) (a_v (x_var fm 1 rfl (fun _ => .inl rfl) rfl) a_nil)) (fun _ => ⟨by show 0 < M; omega, by show M < 1073741824; omega⟩) rfl (.inr ⟨p, rfl⟩) (fun _ => ⟨⟨rfl, rfl, rfl⟩, rfl, trivial⟩) (fun _ => rfl) (fun _ => rfl) (Nat.le_of_ble_eq_true rfl) (fun _ => rfl))
    · rw [← hW, ← hj2]
      exact (x_call1 (c' := cl (rlJ j M).l) fm Fd (fun q => (q, dipJ j M, 4)) (a_s fm 0 rfl (fun _ => .inl rfl) (.inr ⟨p, rfl⟩) (a_v (x_int fm) a_nil)) (fun _ => ⟨(by decide : (0 : Int) < 4), (by decide : (4 : Int) < 1073741824)⟩) rfl (.inr ⟨p, rfl⟩) (fun _ => ⟨⟨rfl, rfl, rfl⟩, rfl, trivial⟩) (fun _ => rfl) (fun _ => rfl) (Nat.le_of_ble_eq_true rfl) (fun _ => rfl))
  by_cases w0 : W = 0
  · have e1 : rowLV j M = rowV j2 N := eV.trans (if_pos w0)
    have e2 : rowLJ j M = rowJ j2 N := eJ.trans (if_pos w0)
    refine ⟨[J (rowJ j2 N), vl M, vl N, vl W, .no, .no, .no, .no], ?_, ?_⟩
    · intro pc hpc
      rw [List.mem_singleton.mp hpc]
      refine ⟨0, ?_⟩
      show some _ = some _
      dsimp only
      rw [e2]
    show BodyOk _ _ _ (rv (rowLV j M)) _
    rw [e1]
    refine .ret (ρ := Txt) (b := rowV j2 N) (step1 (g_yes (sl1 := [J j2, vl M, vl N, vl W, .no, .no, .no, .no]) (T.is (t_eqI fm (x_var fm 3 rfl (fun _ => .inl rfl) rfl) (x_int fm)) (decide_eq_true w0)) ?_))
    exact g_end (g1_ret (x_call1 (c' := cl (rowJ j2 N).l) fm Fa (fun q => (q, j2, N)) (a_s fm 0 rfl (fun _ => .inl rfl) (.inr ⟨p, rfl⟩) (a_v (x_var fm 2 rfl (fun _ => .inl rfl) rfl) a_nil)) (fun _ => ⟨n1, by show N ≤ 10; omega⟩) rfl (.inr ⟨p, rfl⟩) (fun _ => ⟨⟨rfl, rfl, rfl⟩, rfl, trivial⟩) (fun _ => rfl) (fun _ => rfl) (Nat.le_of_ble_eq_true rfl) (fun _ => rfl)))
  have found : ∀ {r : Out Txt} {rest : List Stmt}, G (cX P w K mg base ["jar", "most", "many", "way", "found", "at", "rest", "to"] "_law_row" sLRow f cdv A outer s0 H Ee) rest [J j3, vl M, vl N, vl W, vl (l : Txt), .no, .no, .no] r → G (cX P w K mg base ["jar", "most", "many", "way", "found", "at", "rest", "to"] "_law_row" sLRow f cdv A outer s0 H Ee) ((defBody sLRow).take 3 ++ rest) [J j, vl M, .no, .no, .no, .no, .no, .no] r := by
    intro r rest h
    refine step1 (g_no (sl1 := [J j2, vl M, vl N, vl W, .no, .no, .no, .no]) (T.is (t_eqI fm (x_var fm 3 rfl (fun _ => .inl rfl) rfl) (x_int fm)) (decide_eq_false w0)) (g_cons (g1_asg (a := (l : Txt)) (js := [4]) (sl1 := [J j3, vl M, vl N, vl W, .no, .no, .no, .no]) ?_ (tg_name fm 4 rfl (fun _ => .inl rfl) (fun _ => .inr rfl))) h))
    rw [← eF, ← eK]
    exact (x_call1 (c' := cl (flatJ j2 N).l) fm Ff (fun q => (q, j2, N)) (a_s fm 0 rfl (fun _ => .inl rfl) (.inr ⟨p, rfl⟩) (a_v (x_var fm 2 rfl (fun _ => .inl rfl) rfl) a_nil)) (fun _ => ⟨n1, by show N ≤ 10; omega⟩) rfl (.inr ⟨p, rfl⟩) (fun _ => ⟨⟨rfl, rfl, rfl⟩, rfl, trivial⟩) (fun _ => rfl) (fun _ => rfl) (Nat.le_of_ble_eq_true rfl) (fun _ => rfl))
  by_cases w1 : W = 1
  · obtain ⟨a0, a1⟩ := dipV_lt j3 (m := l.length) (by omega)
    obtain ⟨t0, t1⟩ := dipV_lt (dipJ j3 l.length) (m := l.length) (by omega)
    obtain ⟨a, ea⟩ := Int.eq_ofNat_of_zero_le a0
    obtain ⟨t, et⟩ := Int.eq_ofNat_of_zero_le t0
    rw [ea] at a1
    rw [et] at t1
    have e1 : rowLV j M = moveV l a t := by
      rw [eV, if_neg w0, if_pos w1]
      unfold mvV
      rw [ea, et]
    obtain ⟨j5, hj5⟩ : ∃ j5 : Jar, mvJ j3 l = j5 := ⟨_, rfl⟩
    have e2 : rowLJ j M = j5 := by
      rw [eJ, if_neg w0, if_pos w1]
      exact hj5
    obtain ⟨r, hr⟩ : ∃ r : Txt, cutL l none (some (a : Int)) ++ cutL l (some ((a : Int) + 1)) none = r := ⟨_, rfl⟩
    have rl : r.length ≤ 40 := by
      have c1 := cut_le l none (some (a : Int))
      have c2 := cut_le l (some ((a : Int) + 1)) none
      rw [← hr, List.length_append]
      omega
    have c1 := cut_le l none (some (a : Int))
    have c2 := cut_le l (some ((a : Int) + 1)) none
    have c3 := cut_le r none (some (t : Int))
    have c4 := cut_le r (some (t : Int)) none
    have em : moveV l a t = cutL r none (some (t : Int)) ++ [l.getD a 0] ++ cutL r (some (t : Int)) none := by
      rw [← hr]
      rfl
    refine ⟨[J j5, vl M, vl N, vl W, vl (l : Txt), vl (a : Int), vl (r : Txt), vl (t : Int)], ?_, ?_⟩
    · intro pc hpc
      rw [List.mem_singleton.mp hpc]
      refine ⟨0, ?_⟩
      show some _ = some _
      dsimp only
      rw [e2]
    show BodyOk _ _ _ (rv (rowLV j M)) _
    rw [e1]
    refine .ret (ρ := Txt) (b := moveV l a t) (found (g_yes (sl1 := [J j3, vl M, vl N, vl W, vl (l : Txt), .no, .no, .no]) (T.is (t_eqI fm (x_var fm 3 rfl (fun _ => .inl rfl) rfl) (x_int fm)) (decide_eq_true w1)) ?_))
    refine g_cons (g1_asg (a := (a : Int)) (js := [5]) (sl1 := [J (dipJ j3 l.length), vl M, vl N, vl W, vl (l : Txt), .no, .no, .no]) ?_ (tg_name fm 5 rfl (fun _ => .inl rfl) (fun _ => .inr rfl))) ?_
    · have y : dipV j3 l.length = (a : Int) := ea
      rw [← y]
      exact (x_call1 (c' := cl (dipJ j3 l.length).l) fm Fd (fun q => (q, j3, (l.length : Int))) (a_s fm 0 rfl (fun _ => .inl rfl) (.inr ⟨p, rfl⟩) (a_v (x_lenS (l := l) fm (x_var fm 4 rfl (fun _ => .inl rfl) rfl) (by omega) (fun _ => rfl) m.len) a_nil)) (fun _ => ⟨by show (0 : Int) < (l.length : Int); omega, by show (l.length : Int) < 1073741824; omega⟩) rfl (.inr ⟨p, rfl⟩) (fun _ => ⟨⟨rfl, rfl, rfl⟩, rfl, trivial⟩) (fun _ => rfl) (fun _ => rfl) (Nat.le_of_ble_eq_true rfl) (fun _ => rfl))
    refine g_cons (g1_par2v (a := (r : Txt)) (b := (t : Int)) (sl2 := [J j5, vl M, vl N, vl W, vl (l : Txt), vl (a : Int), .no, .no]) fm 6 7 (a_v (a := (r : Txt)) (sl1 := [J (dipJ j3 l.length), vl M, vl N, vl W, vl (l : Txt), vl (a : Int), .no, .no]) ?_ (a_v (a := (t : Int)) (sl1 := [J j5, vl M, vl N, vl W, vl (l : Txt), vl (a : Int), .no, .no]) ?_ a_nil)) rfl rfl (by decide) (fun _ => rfl) (fun _ => rfl)) ?_
    · rw [← hr]
      exact x_addS fm (x_slS (l := l) (x_var fm 4 rfl (fun _ => .inl rfl) rfl) o_none (o_some (x_var fm 5 rfl (fun _ => .inl rfl) rfl)) (by omega)) (x_slS (l := l) (x_var fm 4 rfl (fun _ => .inl rfl) rfl) (o_some (x_add fm (x_var fm 5 rfl (fun _ => .inl rfl) rfl) (x_int fm))) o_none (by omega)) (by omega)
    · have y : dipV (dipJ j3 l.length) l.length = (t : Int) := et
      rw [← y, ← hj5]
      exact (x_call1 (c' := cl (mvJ j3 l).l) fm Fd (fun q => (q, dipJ j3 l.length, (l.length : Int))) (a_s fm 0 rfl (fun _ => .inl rfl) (.inr ⟨p, rfl⟩) (a_v (x_lenS (l := l) fm (x_var fm 4 rfl (fun _ => .inl rfl) rfl) (by omega) (fun _ => rfl) m.len) a_nil)) (fun _ => ⟨by show (0 : Int) < (l.length : Int); omega, by show (l.length : Int) < 1073741824; omega⟩) rfl (.inr ⟨p, rfl⟩) (fun _ => ⟨⟨rfl, rfl, rfl⟩, rfl, trivial⟩) (fun _ => rfl) (fun _ => rfl) (Nat.le_of_ble_eq_true rfl) (fun _ => rfl))
    rw [em]
    refine g_end (g1_ret (x_addS fm (i := cutL r none (some (t : Int)) ++ [l.getD a 0]) (x_addS fm (x_slS (l := r) (x_var fm 6 rfl (fun _ => .inl rfl) rfl) o_none (o_some (x_var fm 7 rfl (fun _ => .inl rfl) rfl)) (by omega)) (x_ixS (l := l) (i := (a : Int)) (c := l.getD a 0) (x_var fm 4 rfl (fun _ => .inl rfl) rfl) (x_var fm 5 rfl (fun _ => .inl rfl) rfl) ?_ (by omega)) ?_) (x_slS (l := r) (x_var fm 6 rfl (fun _ => .inl rfl) rfl) (o_some (x_var fm 7 rfl (fun _ => .inl rfl) rfl)) o_none (by omega)) ?_))
    · refine L2.atI_nat ?_
      have al : a < l.length := by omega
      rw [List.getD_eq_getElem?_getD, List.getElem?_eq_getElem al]
      rfl
    · rw [List.length_singleton]
      omega
    · rw [List.length_append, List.length_singleton]
      omega
  · have e1 : rowLV j M = l := by rw [eV, if_neg w0, if_neg w1]
    have e2 : rowLJ j M = j3 := by rw [eJ, if_neg w0, if_neg w1]
    refine ⟨[J j3, vl M, vl N, vl W, vl (l : Txt), .no, .no, .no], ?_, ?_⟩
    · intro pc hpc
      rw [List.mem_singleton.mp hpc]
      refine ⟨0, ?_⟩
      show some _ = some _
      dsimp only
      rw [e2]
    show BodyOk _ _ _ (rv (rowLV j M)) _
    rw [e1]
    exact .ret (ρ := Txt) (b := l) (found (g_no (sl1 := [J j3, vl M, vl N, vl W, vl (l : Txt), .no, .no, .no]) (T.is (t_eqI fm (x_var fm 3 rfl (fun _ => .inl rfl) rfl) (x_int fm)) (decide_eq_false w1)) (g_end (g1_ret (x_var fm 4 rfl (fun _ => .inl rfl) rfl)))))
end Law

namespace Law
open PySem L2 Wk
/-! ### plain: the ways -/
def rotN (l : Txt) (k : Nat) : Txt := l.drop k ++ l.take k
def rot1 (l : Txt) : Txt := rotN l 1
theorem rotN_succ {l : Txt} {k : Nat} (h : k < l.length) : rotN (rot1 l) k = rotN l (k + 1) := by
  match l, h with
  | c :: t, h =>
    have hk : k ≤ t.length := by simpa [Nat.lt_succ_iff] using h
    show List.drop k (t ++ [c]) ++ List.take k (t ++ [c]) = List.drop k t ++ c :: List.take k t
    rw [List.drop_append_of_le_length hk, List.take_append_of_le_length hk, List.append_assoc]
    rfl
theorem rot1_rotN {l : Txt} {k : Nat} (h : k < l.length) : rot1 (rotN l k) = rotN l (k + 1) := by
  have e : rotN l k = l[k] :: (l.drop (k + 1) ++ l.take k) := by
    show l.drop k ++ l.take k = _
    rw [List.drop_eq_getElem_cons h, List.cons_append]
  rw [e]
  show (l.drop (k + 1) ++ l.take k) ++ [l[k]] = l.drop (k + 1) ++ l.take (k + 1)
  rw [List.append_assoc, List.take_succ_eq_append_getElem h]
theorem rotN_zero (l : Txt) : rotN l 0 = l := by simp [rotN]
theorem rotN_full (l : Txt) : rotN l l.length = l := by simp [rotN]
theorem rotN_perm (l : Txt) (k : Nat) : (rotN l k).Perm l := List.perm_append_comm.trans (by rw [List.take_append_drop])
theorem rotN_rev {l : Txt} {k : Nat} (h : k ≤ l.length) : (rotN l k).reverse = rotN l.reverse (l.length - k) := by
  unfold rotN
  rw [List.reverse_append, List.drop_reverse, List.take_reverse]
  have e : l.length - (l.length - k) = k := by omega
  rw [e]
theorem rotN_map {f : Nat → Nat} (l : Txt) (k : Nat) : rotN (l.map f) k = (rotN l k).map f := by
  unfold rotN
  rw [List.map_append, List.map_drop, List.map_take]
theorem cyc_succ {β : Type} {g : Nat → β} {n : Nat} (h : g n = g 0) : ((List.range n).map fun k => g (k + 1)).Perm ((List.range n).map g) := by
  have e1 : (List.range (n + 1)).map g = g 0 :: (List.range n).map fun k => g (k + 1) := by
    rw [List.range_succ_eq_map, List.map_cons, List.map_map]
    rfl
  have e2 : (List.range (n + 1)).map g = (List.range n).map g ++ [g n] := by rw [List.range_succ, List.map_append]; rfl
  have p : (g 0 :: (List.range n).map fun k => g (k + 1)).Perm (g 0 :: (List.range n).map g) := by
    rw [← e1, e2, h]
    exact List.perm_append_comm
  exact p.cons_inv
theorem rev_succ {β : Type} {g : Nat → β} : ∀ m : Nat, ((List.range m).map fun k => g (m - k)).Perm ((List.range m).map fun k => g (k + 1))
  | 0 => List.Perm.nil
  | m + 1 => by
    have e1 : ((List.range (m + 1)).map fun k => g (m + 1 - k)) = g (m + 1) :: (List.range m).map fun k => g (m - k) := by
      rw [List.range_succ_eq_map, List.map_cons, List.map_map]
      congr 1
      refine List.map_congr_left fun k _ => ?_
      show g (m + 1 - (k + 1)) = g (m - k)
      congr 1
      omega
    have e2 : ((List.range (m + 1)).map fun k => g (k + 1)) = ((List.range m).map fun k => g (k + 1)) ++ [g (m + 1)] := by rw [List.range_succ, List.map_append]; rfl
    rw [e1, e2]
    exact ((rev_succ m).cons _).trans (List.perm_append_comm (l₁ := [g (m + 1)]))
theorem cyc_rev {β : Type} {g : Nat → β} {n : Nat} (h : g n = g 0) : ((List.range n).map fun k => g (n - k)).Perm ((List.range n).map g) := (rev_succ n).trans (cyc_succ h)
theorem rots_N {l : Txt} {n : Nat} (h : n ≤ l.length) : rotsV l n = (List.range n).map (rotN l) := by
  unfold rotsV
  rw [List.map_map]
  refine List.map_congr_left fun k hk => ?_
  have hk2 := List.mem_range.mp hk
  exact rotV_nat (l := l) (p := k) (by omega)
theorem ways_N (l : Txt) : waysV l = (List.range l.length).map (rotN l) ++ (List.range l.length).map (rotN l.reverse) := by
  rw [ways_eq, rots_N (Nat.le_refl _), rots_N (by rw [List.length_reverse]; exact Nat.le_refl _)]
theorem rots_rot1 {l : Txt} {n : Nat} (h : n = l.length) : ((List.range n).map (rotN (rot1 l))).Perm ((List.range n).map (rotN l)) := by
  have e : (List.range n).map (rotN (rot1 l)) = (List.range n).map fun k => rotN l (k + 1) := List.map_congr_left fun k hk => rotN_succ (by have := List.mem_range.mp hk; omega)
  rw [e]
  refine cyc_succ ?_
  rw [h, rotN_full, rotN_zero]
theorem map_rot1 {l : Txt} {n : Nat} (h : n = l.length) : (((List.range n).map (rotN l)).map rot1).Perm ((List.range n).map (rotN l)) := by
  have e : ((List.range n).map (rotN l)).map rot1 = (List.range n).map fun k => rotN l (k + 1) := by
    rw [List.map_map]
    exact List.map_congr_left fun k hk => rot1_rotN (by have := List.mem_range.mp hk; omega)
  rw [e]
  refine cyc_succ ?_
  rw [h, rotN_full, rotN_zero]
theorem map_rev {l : Txt} {n : Nat} (h : n = l.length) : (((List.range n).map (rotN l)).map List.reverse).Perm ((List.range n).map (rotN l.reverse)) := by
  have e : ((List.range n).map (rotN l)).map List.reverse = (List.range n).map fun k => rotN l.reverse (n - k) := by
    rw [List.map_map]
    refine List.map_congr_left fun k hk => ?_
    have := List.mem_range.mp hk
    show (rotN l k).reverse = _
    rw [rotN_rev (by omega), h]
  rw [e]
  refine cyc_rev ?_
  have e2 : n = l.reverse.length := by rw [List.length_reverse]; exact h
  rw [e2, rotN_full, rotN_zero]
theorem rot1_len (l : Txt) : (rot1 l).length = l.length := (rotN_perm l 1).length_eq
theorem ways_left1 (l : Txt) : ((waysV l).map rot1).Perm (waysV l) := by
  rw [ways_N, List.map_append]
  exact (map_rot1 rfl).append (map_rot1 (by rw [List.length_reverse]))
theorem ways_leftR (l : Txt) : ((waysV l).map List.reverse).Perm (waysV l) := by
  rw [ways_N, List.map_append]
  have p2 := map_rev (l := l.reverse) (n := l.length) (by rw [List.length_reverse])
  rw [List.reverse_reverse] at p2
  exact ((map_rev rfl).append p2).trans List.perm_append_comm
theorem ways_rev (l : Txt) : (waysV l.reverse).Perm (waysV l) := by
  rw [ways_N, ways_N, List.reverse_reverse, List.length_reverse]
  exact List.perm_append_comm
theorem ways_rot1 (l : Txt) : (waysV (rot1 l)).Perm (waysV l) := by
  rw [ways_N, ways_N, rot1_len]
  refine (rots_rot1 rfl).append ?_
  have e : rot1 (rot1 l).reverse = l.reverse := by
    match l with
    | [] => rfl
    | c :: t =>
      show rot1 (t ++ [c]).reverse = (c :: t).reverse
      rw [List.reverse_append, List.reverse_cons (as := t)]
      rfl
  have p := rots_rot1 (l := (rot1 l).reverse) (n := l.length) (by rw [List.length_reverse, rot1_len])
  rw [e] at p
  exact p.symm
/-- what holds of a text, of its rotations and of its reverse, holds of all its ways -/
theorem ways_all {R : Txt → Prop} {l : Txt} (h0 : R l) (h1 : ∀ w, w.Perm l → R w → R (rot1 w)) (h2 : ∀ w, w.Perm l → R w → R w.reverse) : (∀ w ∈ waysV l, R w ∧ w.Perm l) ∧ ∀ k, k ≤ l.length → R (rotN l k) ∧ R (rotN l k).reverse := by
  have key : ∀ v : Txt, v.Perm l → R v → ∀ k, k ≤ v.length → R (rotN v k) := fun v pv hv k => by
    induction k with
    | zero => intro _; rw [rotN_zero]; exact hv
    | succ k ih =>
      intro hk
      rw [← rot1_rotN (by omega)]
      exact h1 _ ((rotN_perm v k).trans pv) (ih (by omega))
  refine ⟨fun w hw => ?_, fun k hk => ⟨key l (List.Perm.refl _) h0 k hk, h2 _ (rotN_perm l k) (key l (List.Perm.refl _) h0 k hk)⟩⟩
  rw [ways_N, List.mem_append] at hw
  rcases hw with hw | hw
  · obtain ⟨k, hk, rfl⟩ := List.mem_map.mp hw
    have := List.mem_range.mp hk
    exact ⟨key l (List.Perm.refl _) h0 k (by omega), rotN_perm l k⟩
  · obtain ⟨k, hk, rfl⟩ := List.mem_map.mp hw
    have := List.mem_range.mp hk
    exact ⟨key l.reverse (List.reverse_perm l) (h2 l (List.Perm.refl _) h0) k (by rw [List.length_reverse]; omega), (rotN_perm _ k).trans (List.reverse_perm l)⟩
theorem ways_of {l w : Txt} (h : w ∈ waysV l) : (waysV w).Perm (waysV l) :=
  ((ways_all (R := fun w => (waysV w).Perm (waysV l)) (List.Perm.refl _) (fun w _ h => (ways_rot1 w).trans h) (fun w _ h => (ways_rev w).trans h)).1 w h).1
theorem ways_perm {l w : Txt} (h : w ∈ waysV l) : w.Perm l := ((ways_all (R := fun _ => True) trivial (fun _ _ _ => trivial) (fun _ _ _ => trivial)).1 w h).2
/-- letters in order -/
def ordV (w : Txt) : Txt := renV w abc
section
variable {l ls w v : Txt}
theorem ord_f (h : Proper w ls) : Inj (swp (firsts w) abc) w := ren_inj (by decide) (by rw [firsts_len h]; exact h.2.2.1)
theorem inj_sub {f : Nat → Nat} {a b : Txt} (h : Inj f a) (s : ∀ c ∈ b, c ∈ a) : Inj f b := fun c hc d hd => h c (s c hc) d (s d hd)
/-- letters in order behind an act on places -/
theorem ord_act {act : Txt → Txt} (nat : ∀ (f : Nat → Nat) (l : Txt), act (l.map f) = (act l).map f) (pm : ∀ l, (act l).Perm l) (h : Proper w ls) : ordV (act (ordV w)) = ordV (act w) := by
  show renV (act (w.map (swp (firsts w) abc))) abc = renV (act w) abc
  rw [nat]
  exact renV_map (inj_sub (ord_f h) fun c hc => (pm w).mem_iff.mp hc)
theorem ord_act2 {act : Txt → Txt} (nat : ∀ (f : Nat → Nat) (l : Txt), act (l.map f) = (act l).map f) (pm : ∀ l, (act l).Perm l) (h : Proper w ls) (g : Proper v ls) (e : ordV v = ordV w) : ordV (act v) = ordV (act w) := by
  rw [← ord_act nat pm h, ← ord_act nat pm g, e]
theorem ord_rev (h : Proper w ls) (g : Proper v ls) : ordV v.reverse = ordV w.reverse ↔ ordV v = ordV w := by
  have nat : ∀ (f : Nat → Nat) (l : Txt), (l.map f).reverse = l.reverse.map f := fun f l => List.map_reverse.symm
  refine ⟨fun e => ?_, ord_act2 nat (fun l => List.reverse_perm l) h g⟩
  have y := ord_act2 nat (fun l => List.reverse_perm l) (h.perm (List.reverse_perm w)) (g.perm (List.reverse_perm v)) e
  rw [List.reverse_reverse, List.reverse_reverse] at y
  exact y
theorem ord_rot (h : Proper w ls) (g : Proper v ls) : ordV (rot1 v) = ordV (rot1 w) ↔ ordV v = ordV w := by
  refine ⟨fun e => ?_, ord_act2 (fun f l => rotN_map l 1) (fun l => rotN_perm l 1) h g⟩
  have y := ord_act2 (act := fun l => rotN l (2 * ls.length - 1)) (fun f l => rotN_map l _) (fun l => rotN_perm l _) (h.perm (rotN_perm w 1)) (g.perm (rotN_perm v 1)) e
  have h1 := h.len
  have h2 := g.len
  have h3 := h.2.1
  have e1 : rotN (rot1 v) (2 * ls.length - 1) = v := by
    rw [rotN_succ (by omega), show 2 * ls.length - 1 + 1 = v.length by omega, rotN_full]
  have e2 : rotN (rot1 w) (2 * ls.length - 1) = w := by
    rw [rotN_succ (by omega), show 2 * ls.length - 1 + 1 = w.length by omega, rotN_full]
  have y2 : ordV (rotN (rot1 v) (2 * ls.length - 1)) = ordV (rotN (rot1 w) (2 * ls.length - 1)) := y
  rw [e1, e2] at y2
  exact y2
/-- how many ways give w but for letters -/
def cntW (l w : Txt) : Nat := (waysV l).countP fun v => decide (ordV v = ordV w)
def dueN (l : Txt) : Nat := cntW l l
theorem cnt_act {act : Txt → Txt} (h : Proper l ls) (pw : w.Perm l) (left : ((waysV l).map act).Perm (waysV l)) (iff : ∀ {a b : Txt}, Proper a ls → Proper b ls → (ordV (act b) = ordV (act a) ↔ ordV b = ordV a)) : cntW l (act w) = cntW l w := by
  unfold cntW
  rw [← left.countP_eq, List.countP_map]
  refine List.countP_congr fun v hv => ?_
  show decide (ordV (act v) = ordV (act w)) = true ↔ decide (ordV v = ordV w) = true
  rw [decide_eq_true_eq, decide_eq_true_eq]
  exact iff (h.perm pw) (h.perm (ways_perm hv))
theorem cnt_ways (h : Proper l ls) : (∀ w ∈ waysV l, cntW l w = dueN l ∧ w.Perm l) ∧ ∀ k, k ≤ l.length → cntW l (rotN l k) = dueN l ∧ cntW l (rotN l k).reverse = dueN l :=
  ways_all (R := fun w => cntW l w = dueN l) rfl (fun w pw e => (cnt_act h pw (ways_left1 l) fun a b => ord_rot a b).trans e) (fun w pw e => (cnt_act h pw (ways_leftR l) fun a b => ord_rev a b).trans e)
theorem due_of (h : Proper l ls) (hw : w ∈ waysV l) : dueN w = dueN l := by
  rw [← ((cnt_ways h).1 w hw).1]
  exact (ways_of hw).countP_eq _
theorem due_turn (h : Proper l ls) {k : Nat} (hk : k ≤ l.length) : dueN (rotN l k) = dueN l ∧ dueN (rotN l k).reverse = dueN l := by
  have pk : (waysV (rotN l k)).Perm (waysV l) ∧ (waysV (rotN l k).reverse).Perm (waysV l) := (ways_all (R := fun w => (waysV w).Perm (waysV l)) (List.Perm.refl _) (fun w _ h => (ways_rot1 w).trans h) (fun w _ h => (ways_rev w).trans h)).2 k hk
  obtain ⟨e1, e2⟩ := (cnt_ways h).2 k hk
  exact ⟨(pk.1.countP_eq _).trans e1, (pk.2.countP_eq _).trans e2⟩
theorem due_map {f : Nat → Nat} (hi : Inj f w) : dueN (w.map f) = dueN w := by
  unfold dueN cntW
  rw [ways_map, List.countP_map]
  refine List.countP_congr fun v hv => ?_
  show decide (renV (v.map f) abc = renV (w.map f) abc) = true ↔ decide (renV v abc = renV w abc) = true
  rw [renV_map hi, renV_map (inj_sub hi fun c hc => (ways_perm hv).mem_iff.mp hc)]
theorem due_line (h : Proper l ls) (j : Jar) : dueN (lineV j l) = dueN l := by
  have hl := h.len
  have h1 := h.2.1
  have pw := h.perm (lineW_perm (j := j) (by omega))
  have pm := (mix_sgs (lineI j l)).2
  have e1 : dueN (lineV j l) = dueN (lineW j l) := due_map (ren_inj (pm.nodup_iff.mpr (by decide)) (by rw [firsts_len pw, pm.length_eq]; exact h.2.2.1))
  obtain ⟨d1, d2⟩ := dipV_lt j (m := l.length) (by omega)
  obtain ⟨n, en⟩ := Int.eq_ofNat_of_zero_le d1
  have et : turnW j l = rotN l n := by
    unfold turnW
    rw [en, rotV_nat (by omega)]
    rfl
  obtain ⟨q1, q2⟩ := due_turn h (k := n) (by omega)
  rw [e1]
  unfold lineW
  split
  · rw [et, q1]
  · rw [et, q2]
/-- the ways with letters in order -/
def ordsV (l : Txt) : List Txt := (waysV l).map ordV
theorem ord_proper (h : Proper l ls) : ∃ ks, Proper (ordV l) ks ∧ ks.length = ls.length :=
  ⟨_, ren_any h (by decide) (fun _ h => h) h.2.2.1, List.length_map _⟩
theorem ords_count (h : Proper l ls) {u : Txt} (hu : u ∈ ordsV l) : (ordsV l).count u = dueN l := by
  obtain ⟨w, hw, rfl⟩ := List.mem_map.mp hu
  have e := ((cnt_ways h).1 w hw).1
  rw [← e]
  unfold cntW ordsV List.count
  rw [List.countP_map]
  refine List.countP_congr fun v hv => ?_
  show (ordV v == ordV w) = true ↔ decide (ordV v = ordV w) = true
  rw [beq_iff_eq, decide_eq_true_eq]
theorem ords_due (h : Proper l ls) {u : Txt} (hu : u ∈ ordsV l) : dueN u = dueN l ∧ ∃ ks, Proper u ks := by
  obtain ⟨w, hw, rfl⟩ := List.mem_map.mp hu
  have pw := h.perm (ways_perm hw)
  obtain ⟨ks, pk, _⟩ := ord_proper pw
  exact ⟨(due_map (ord_f pw)).trans (due_of h hw), ks, pk⟩
theorem sum_add (f g : Txt → Nat) : ∀ ks : List Txt, (ks.map fun u => f u + g u).sum = (ks.map f).sum + (ks.map g).sum
  | [] => rfl
  | k :: ks => by
    have := sum_add f g ks
    simp only [List.map_cons, List.sum_cons]
    omega
theorem sum_one (x : Txt) : ∀ ks : List Txt, (ks.map fun u => if x = u then 1 else 0).sum = ks.count x
  | [] => rfl
  | k :: ks => by
    rw [List.map_cons, List.sum_cons, sum_one x ks, List.count_cons]
    by_cases e : x = k
    · rw [if_pos e, if_pos (by rw [e]; exact beq_self_eq_true k)]
      omega
    · rw [if_neg e, if_neg (by intro y; exact e (eq_of_beq y).symm)]
      omega
theorem cnt_oneT : ∀ {ks : List Txt} {c : Txt}, ks.Nodup → c ∈ ks → ks.count c = 1
  | d :: ls, c, hn, hc => by
    obtain ⟨h1, h2⟩ := List.nodup_cons.mp hn
    rw [List.count_cons]
    rcases List.mem_cons.mp hc with y | y
    · subst y
      rw [List.count_eq_zero_of_not_mem h1]
      simp
    · rw [cnt_oneT h2 y, if_neg (by
        intro q
        have : d = c := by simpa using q
        exact h1 (this ▸ y))]
theorem sum_count {ks : List Txt} (hn : ks.Nodup) : ∀ R : List Txt, (∀ x ∈ R, x ∈ ks) → (ks.map fun u => R.count u).sum = R.length
  | [], _ => by
    have : ∀ ks : List Txt, (ks.map fun u => ([] : List Txt).count u).sum = 0 := fun ks => by
      induction ks with
      | nil => rfl
      | cons k ks ih => rw [List.map_cons, List.sum_cons, ih]; rfl
    exact this ks
  | x :: R, h => by
    have i := sum_count hn R fun y hy => h y (List.mem_cons_of_mem _ hy)
    have e : (ks.map fun u => (x :: R).count u) = ks.map fun u => R.count u + if x = u then 1 else 0 := by
      refine List.map_congr_left fun u _ => ?_
      rw [List.count_cons]
      by_cases q : x = u
      · rw [if_pos q, if_pos (by rw [q]; exact beq_self_eq_true u)]
      · rw [if_neg q, if_neg (by intro y; exact q (eq_of_beq y))]
    rw [e, sum_add, i, sum_one, cnt_oneT hn (h x (List.mem_cons_self ..)), List.length_cons]
theorem sum_const {g : Txt → Nat} {d : Nat} : ∀ {ks : List Txt}, (∀ u ∈ ks, g u = d) → (ks.map g).sum = d * ks.length
  | [], _ => rfl
  | k :: ks, h => by
    rw [List.map_cons, List.sum_cons, sum_const fun u hu => h u (List.mem_cons_of_mem _ hu), h k (List.mem_cons_self ..), List.length_cons, Nat.mul_succ]
    omega
theorem ords_all (h : Proper l ls) {ks : List Txt} (hn : ks.Nodup) (hk : ∀ t, t ∈ ks ↔ t ∈ ordsV l) : dueN l * ks.length = 2 * l.length := by
  have e1 := sum_count hn (ordsV l) fun x hx => (hk x).2 hx
  have e2 : (ks.map fun u => (ordsV l).count u).sum = dueN l * ks.length := sum_const fun u hu => ords_count h ((hk u).1 hu)
  have e3 : (ordsV l).length = l.length + l.length := by
    unfold ordsV
    rw [List.length_map, ways_len]
  omega
end
/-- a list of texts without doubles, in order -/
theorem ins_ex (x : Txt) : ∀ ks : List Txt, (ks.Pairwise fun a b => ¬ b < a) → ∃ qs : List Txt, qs.Perm (x :: ks) ∧ qs.Pairwise fun a b => ¬ b < a
  | [], _ => ⟨[x], List.Perm.refl _, by simp⟩
  | k :: ks, h => by
    obtain ⟨h1, h2⟩ := List.pairwise_cons.mp h
    by_cases q : k < x
    · obtain ⟨qs, p, hq⟩ := ins_ex x ks h2
      refine ⟨k :: qs, (p.cons k).trans (List.Perm.swap x k ks), List.pairwise_cons.mpr ⟨fun b hb => ?_, hq⟩⟩
      rcases List.mem_cons.mp (p.mem_iff.mp hb) with y | y
      · rw [y]
        exact List.lt_asymm q
      · exact h1 b y
    · refine ⟨x :: k :: ks, List.Perm.refl _, List.pairwise_cons.mpr ⟨fun b hb => ?_, h⟩⟩
      rcases List.mem_cons.mp hb with y | y
      · rw [y]
        exact q
      · have y2 := h1 b y
        rw [List.not_lt] at y2 q ⊢
        exact List.le_trans q y2
theorem sort_ex : ∀ R : List Txt, ∃ ks : List Txt, ks.Nodup ∧ (∀ t, t ∈ ks ↔ t ∈ R) ∧ ks.Pairwise fun a b => ¬ b < a
  | [] => ⟨[], List.nodup_nil, fun t => Iff.rfl, List.Pairwise.nil⟩
  | x :: R => by
    obtain ⟨ks, h1, h2, h3⟩ := sort_ex R
    by_cases hx : x ∈ ks
    · refine ⟨ks, h1, fun t => ?_, h3⟩
      rw [List.mem_cons, h2]
      exact ⟨.inr, fun y => y.elim (fun e => by rw [e]; exact (h2 x).1 hx) id⟩
    · obtain ⟨qs, p, hq⟩ := ins_ex x ks h3
      refine ⟨qs, p.nodup_iff.mpr (List.nodup_cons.mpr ⟨hx, h1⟩), fun t => ?_, hq⟩
      rw [p.mem_iff, List.mem_cons, List.mem_cons, h2]
end Law

namespace Law
open PySem L2 Wk
/-! ### plain: links of a row begun elsewhere, backwards -/
theorem lk_iff {l : Txt} {c m : Nat} : lkB l c m = true ↔ toldV l c m = [c, m, c, m] ∨ toldV l c m = [m, c, m, c] := by
  unfold lkB
  rw [decide_eq_true_eq]
  simp
theorem told_app (a b : Txt) (c m : Nat) : toldV (a ++ b) c m = toldV a c m ++ toldV b c m := List.filter_append ..
theorem told_one_in {x c m : Nat} (h : x = c ∨ x = m) : toldV [x] c m = [x] := by
  unfold toldV
  rw [List.filter_cons_of_pos (by rcases h with rfl | rfl <;> simp)]
  rfl
theorem told_one_out {x c m : Nat} (h1 : x ≠ c) (h2 : x ≠ m) : toldV [x] c m = [] := by
  unfold toldV
  rw [List.filter_cons_of_neg (by simp [h1, h2])]
  rfl
theorem cyc_aux {T : Txt} {c m : Nat} (h : c ≠ m) : (c :: T = [c, m, c, m] ∨ c :: T = [m, c, m, c]) ↔ (T ++ [c] = [c, m, c, m] ∨ T ++ [c] = [m, c, m, c]) := by
  have e1 : (c :: T = [c, m, c, m]) ↔ T = [m, c, m] := by simp
  have e2 : ¬ c :: T = [m, c, m, c] := by
    intro q
    have : c = m := by injection q
    exact h this
  have e3 : (T ++ [c] = [m, c, m, c]) ↔ T = [m, c, m] := by
    have : ([m, c, m, c] : Txt) = [m, c, m] ++ [c] := rfl
    rw [this, List.append_cancel_right_eq]
  have e4 : ¬ T ++ [c] = [c, m, c, m] := by
    intro q
    have e : ([c, m, c, m] : Txt) = [c, m, c] ++ [m] := rfl
    rw [e] at q
    have := List.append_inj_right' q rfl
    exact h (by simpa using this)
  rw [e1, e3]
  exact ⟨fun y => .inr (y.resolve_right e2), fun y => .inl (y.resolve_left e4)⟩
theorem lk_rot1 {l : Txt} {c m : Nat} (h : c ≠ m) : lkB (rot1 l) c m = lkB l c m := by
  rw [Bool.eq_iff_iff, lk_iff, lk_iff]
  match l with
  | [] => exact Iff.rfl
  | x :: t =>
    have e1 : toldV (rot1 (x :: t)) c m = toldV t c m ++ toldV [x] c m := told_app t [x] c m
    have e2 : toldV (x :: t) c m = toldV [x] c m ++ toldV t c m := told_app [x] t c m
    rw [e1, e2]
    by_cases hc : x = c
    · rw [told_one_in (.inl hc), hc]
      exact (cyc_aux h).symm
    · by_cases hm : x = m
      · rw [told_one_in (.inr hm), hm]
        have y := cyc_aux (T := toldV t c m) (c := m) (m := c) (Ne.symm h)
        rw [or_comm, ← y, or_comm]
        exact Iff.rfl
      · rw [told_one_out hc hm, List.append_nil, List.nil_append]
theorem lk_rev {l : Txt} {c m : Nat} : lkB l.reverse c m = lkB l c m := by
  rw [Bool.eq_iff_iff, lk_iff, lk_iff]
  have e : toldV l.reverse c m = (toldV l c m).reverse := List.filter_reverse ..
  rw [e, List.reverse_eq_iff, List.reverse_eq_iff]
  exact or_comm
theorem lk_rotN {l : Txt} {c m k : Nat} (h : c ≠ m) (hk : k ≤ l.length) : lkB (rotN l k) c m = lkB l c m :=
  ((ways_all (R := fun v => lkB v c m = lkB l c m) rfl (fun w _ e => (lk_rot1 h).trans e) (fun w _ e => lk_rev.trans e)).2 k hk).1
theorem pairL_congr {u : Txt} {q r : Nat → Nat → Bool} (h : ∀ c m, c < m → q c m = r c m) : pairL u q = pairL u r := by
  unfold pairL
  congr 1
  funext c
  congr 1
  refine List.filter_congr fun m _ => ?_
  by_cases y : c < m
  · rw [h c m y]
  · rw [decide_eq_false y]
    rfl
theorem ups_perm {a b : Txt} (h : a.Perm b) : ups a = ups b := ups_of_same fun c => h.mem_iff
section
variable {l o ls : Txt} {c : Nat}
theorem pairs_lps (h : Proper l ls) : pairsV l = lpsV l := (pairs_eq h.two).trans (lps_eq l).symm
theorem pairs_same (h : Proper l ls) (p : o.Perm l) (e : ∀ c m, c ≠ m → lkB o c m = lkB l c m) : pairsV o = lpsV l := by
  rw [pairs_eq (h.perm p).two, lps_eq, ups_perm p]
  exact pairL_congr fun c m y => e c m (Nat.ne_of_lt y)
/-- the letters linked with c -/
def mateV (l : Txt) (c : Nat) : Txt := (ups l).filter fun m => !decide (m = c) && lkB l c m
theorem in_none (h : Proper l ls) (hc : c ∈ l) : c ∉ inV l c := by
  obtain ⟨x, y, z, e, hx, hy, hz⟩ := split_two (h.two c hc)
  rw [e, inV_split hx hy hz]
  exact hy
theorem once_iffm (h : Proper l ls) (hc : c ∈ l) {m : Nat} : m ∈ onceV (inV l c) ↔ m ∈ l ∧ m ≠ c ∧ lkB l c m = true := by
  constructor
  · intro y
    have hin : m ∈ inV l c := ups_mem.1 (List.mem_filter.mp y).1
    have hm : m ∈ l := cut_mem hin
    have hne : m ≠ c := fun e => in_none h hc (e ▸ hin)
    exact ⟨hm, hne, (mate_iff (h.two c hc) (h.two m hm) (Ne.symm hne)).1 y⟩
  · rintro ⟨hm, hne, hk⟩
    exact (mate_iff (h.two c hc) (h.two m hm) (Ne.symm hne)).2 hk
theorem mate_mem {m : Nat} : m ∈ mateV l c ↔ m ∈ l ∧ m ≠ c ∧ lkB l c m = true := by
  unfold mateV
  rw [List.mem_filter, ups_mem, Bool.and_eq_true, Bool.not_eq_true', decide_eq_false_iff_not]
theorem once_mates (h : Proper l ls) (hc : c ∈ l) : onceV (inV l c) = mateV l c :=
  up_ext ((ups_up _).filter _) ((ups_up _).filter _) fun m => by rw [once_iffm h hc]; exact mate_mem.symm
theorem mate_same (h : Proper l ls) (p : o.Perm l) (e : ∀ c m, c ≠ m → lkB o c m = lkB l c m) (hc : c ∈ l) : onceV (inV o c) = mateV l c :=
  up_ext ((ups_up _).filter _) ((ups_up _).filter _) fun m => by
    rw [once_iffm (h.perm p) (p.mem_iff.mpr hc), mate_mem, p.mem_iff]
    exact and_congr_right fun _ => and_congr_right fun hne => by rw [e c m (Ne.symm hne)]
/-- are two letters linked: either way round -/
theorem lnk_same {d : Nat} (h : Proper l ls) (hc : c ∈ l) (hd : d ∈ l) : decide (d ∈ onceV (inV l c)) = decide (d ∈ mateV l c) ∧ decide (c ∈ onceV (inV l d)) = decide (d ∈ mateV l c) := by
  rw [once_mates h hc, once_mates h hd]
  refine ⟨rfl, decide_eq_decide.mpr ?_⟩
  rw [mate_mem, mate_mem, lk_symm]
  exact ⟨fun ⟨_, h2, h3⟩ => ⟨hd, Ne.symm h2, h3⟩, fun ⟨_, h2, h3⟩ => ⟨hc, Ne.symm h2, h3⟩⟩
end
/-- between, begun elsewhere -/
theorem rot_in {x y z : Txt} {c n : Nat} (hx : c ∉ x) (hy : c ∉ y) (hz : c ∉ z) : inV (rotN (x ++ c :: (y ++ c :: z)) n) c = if x.length < n ∧ n ≤ x.length + 1 + y.length then z ++ x else y := by
  have nd : ∀ {u : Txt} {k : Nat}, c ∉ u → c ∉ u.drop k := fun h y => h (List.mem_of_mem_drop y)
  have nt : ∀ {u : Txt} {k : Nat}, c ∉ u → c ∉ u.take k := fun h y => h (List.mem_of_mem_take y)
  have na : ∀ {u v : Txt}, c ∉ u → c ∉ v → c ∉ u ++ v := fun h1 h2 y => (List.mem_append.mp y).elim h1 h2
  by_cases h1 : n ≤ x.length
  · rw [if_neg (by omega)]
    have e : rotN (x ++ c :: (y ++ c :: z)) n = x.drop n ++ c :: (y ++ c :: (z ++ x.take n)) := by
      unfold rotN
      rw [List.drop_append, List.take_append, show n - x.length = 0 by omega]
      simp
    rw [e]
    exact inV_split (nd hx) hy (na hz (nt hx))
  · by_cases h2 : n ≤ x.length + 1 + y.length
    · rw [if_pos ⟨by omega, h2⟩]
      obtain ⟨k, hk⟩ : ∃ k, n = (x ++ [c]).length + k := ⟨n - (x.length + 1), by rw [List.length_append, List.length_singleton]; omega⟩
      rw [List.length_append, List.length_singleton] at hk
      have e : rotN (x ++ c :: (y ++ c :: z)) n = y.drop k ++ c :: ((z ++ x) ++ c :: y.take k) := by
        obtain ⟨p, hp⟩ : ∃ p : Txt, x ++ [c] = p := ⟨_, rfl⟩
        have e0 : x ++ c :: (y ++ c :: z) = p ++ (y ++ c :: z) := by rw [← hp]; simp
        have l1 : p.length = x.length + 1 := by rw [← hp]; simp
        unfold rotN
        rw [e0, List.drop_append, List.take_append, l1, show n - (x.length + 1) = k by omega, List.drop_eq_nil_of_le (as := p) (by omega), List.take_of_length_le (l := p) (by omega), List.drop_append, List.take_append, show k - y.length = 0 by omega, ← hp]
        simp
      rw [e]
      exact inV_split (nd hy) (na hz hx) (nt hy)
    · rw [if_neg (by omega)]
      obtain ⟨k, hk⟩ : ∃ k, n = x.length + 1 + y.length + 1 + k := ⟨n - (x.length + 1 + y.length + 1), by omega⟩
      have e : rotN (x ++ c :: (y ++ c :: z)) n = (z.drop k ++ x) ++ c :: (y ++ c :: z.take k) := by
        have e0 : x ++ c :: (y ++ c :: z) = (x ++ c :: (y ++ [c])) ++ z := by simp
        have l1 : (x ++ c :: (y ++ [c])).length = x.length + 1 + y.length + 1 := by simp; omega
        unfold rotN
        rw [e0, List.drop_append, List.take_append, l1, show n - (x.length + 1 + y.length + 1) = k by omega, List.drop_eq_nil_of_le (as := x ++ c :: (y ++ [c])) (by rw [l1]; omega), List.take_of_length_le (l := x ++ c :: (y ++ [c])) (by rw [l1]; omega)]
        simp
      rw [e]
      exact inV_split (na (nd hz) hx) hy (nt hz)
/-- the places of a letter -/
def spotsV (l : Txt) (c : Nat) : List Int := ((List.range l.length).map fun k : Nat => (k : Int)).filter fun k => decide (l.getD k.toNat 0 = c)
theorem spots_occ (l : Txt) (c : Nat) : spotsV l c = occ l c := by
  have e : numd l = ((List.range l.length).map fun k : Nat => (k : Int)).map fun k => (k, ([l.getD k.toNat 0] : Txt)) := by
    apply List.ext_getElem?
    intro i
    unfold numd
    rw [List.map_map, List.getElem?_map, List.getElem?_map, List.getElem?_zipIdx]
    by_cases hi : i < l.length
    · rw [List.getElem?_range hi, List.getElem?_eq_getElem hi]
      simp [List.getD_eq_getElem?_getD, List.getElem?_eq_getElem hi]
    · rw [List.getElem?_eq_none (l := l) (by omega), List.getElem?_eq_none (by rw [List.length_range]; omega)]
      rfl
  unfold occ spotsV
  rw [e]
  generalize ((List.range l.length).map fun k : Nat => (k : Int)) = R
  rw [List.filter_map, List.map_map]
  have e2 : ((fun q : Int × Txt => decide (q.2 = [c])) ∘ fun k : Int => (k, ([l.getD k.toNat 0] : Txt))) = fun k => decide (l.getD k.toNat 0 = c) := by
    funext k
    exact decide_eq_decide.mpr (by simp)
  rw [e2]
  exact ((List.map_congr_left fun k _ => rfl).trans (List.map_id _)).symm
/-- what stands between two places -/
def spanV (l : Txt) (i j : Int) : List Txt := ((List.range (j - i).toNat).map fun k : Nat => i + (k : Int)).map fun k => ([l.getD k.toNat 0] : Txt)
theorem span_split {a y b : Txt} : spanV (a ++ (y ++ b)) (a.length : Int) ((a.length + y.length : Nat) : Int) = sgs y := by
  unfold spanV
  rw [List.map_map, show (((a.length + y.length : Nat) : Int) - (a.length : Int)).toNat = y.length by omega]
  apply List.ext_getElem?
  intro i
  unfold sgs
  rw [List.getElem?_map, List.getElem?_map]
  by_cases hi : i < y.length
  · rw [List.getElem?_range hi, List.getElem?_eq_getElem hi]
    show some ([(a ++ (y ++ b)).getD ((a.length : Int) + (i : Int)).toNat 0] : Txt) = some [y[i]]
    rw [show ((a.length : Int) + (i : Int)).toNat = a.length + i by omega, List.getD_eq_getElem?_getD, List.getElem?_append_right (by omega), show a.length + i - a.length = i by omega, List.getElem?_append_left hi, List.getElem?_eq_getElem hi]
    rfl
  · rw [List.getElem?_eq_none (l := y) (by omega), List.getElem?_eq_none (by rw [List.length_range]; omega)]
    rfl
end Law

namespace Law
open PySem L2 Wk
/-! ### plain: bunches -/
def Lk (l : Txt) (c m : Nat) : Prop := c ∈ l ∧ m ∈ l ∧ c ≠ m ∧ lkB l c m = true
theorem Lk.symm {l : Txt} {c m : Nat} (h : Lk l c m) : Lk l m c := ⟨h.2.1, h.1, Ne.symm h.2.2.1, by rw [lk_symm]; exact h.2.2.2⟩
/-- hangs together by links -/
inductive Rch (l : Txt) (c : Nat) : Nat → Prop where
  | refl : Rch l c c
  | step {m k : Nat} : Rch l c m → Lk l m k → Rch l c k
theorem Rch.trans {l : Txt} {a b c : Nat} (h : Rch l a b) (g : Rch l b c) : Rch l a c := by
  induction g with
  | refl => exact h
  | step _ k ih => exact .step ih k
theorem Rch.symm {l : Txt} {a b : Nat} (h : Rch l a b) : Rch l b a := by
  induction h with
  | refl => exact .refl
  | step _ k ih => exact (Rch.step .refl k.symm).trans ih
theorem Rch.mem {l : Txt} {a b : Nat} (h : Rch l a b) (ha : a ∈ l) : b ∈ l := by
  cases h with
  | refl => exact ha
  | step _ k => exact k.2.1
noncomputable def compV (l : Txt) (c : Nat) : Txt := (ups l).filter fun m => @decide (Rch l c m) (Classical.propDecidable _)
section
variable {l ls : Txt} {c m : Nat}
theorem comp_mem : m ∈ compV l c ↔ m ∈ l ∧ Rch l c m := by
  unfold compV
  rw [List.mem_filter, ups_mem]
  exact and_congr_right fun _ => ⟨fun h => @of_decide_eq_true _ (Classical.propDecidable _) h, fun h => @decide_eq_true _ (Classical.propDecidable _) h⟩
theorem comp_up (l : Txt) (c : Nat) : (compV l c).Pairwise (· < ·) := (ups_up l).filter _
theorem comp_same (h : Rch l c m) : compV l c = compV l m := up_ext (comp_up l c) (comp_up l m) fun x => by
  rw [comp_mem, comp_mem]
  exact and_congr_right fun _ => ⟨fun y => h.symm.trans y, fun y => h.trans y⟩
theorem comp_iff (hc : c ∈ l) : compV l c = compV l m ↔ Rch l c m := by
  refine ⟨fun e => ?_, comp_same⟩
  have y : c ∈ compV l c := comp_mem.2 ⟨hc, .refl⟩
  rw [e, comp_mem] at y
  exact y.2.symm
noncomputable def bunchesV (l : Txt) : List Txt := Classical.choose (sort_ex ((ups l).map (compV l)))
theorem bunches_spec (l : Txt) : (bunchesV l).Nodup ∧ (∀ t, t ∈ bunchesV l ↔ ∃ c ∈ l, t = compV l c) ∧ (bunchesV l).Pairwise fun a b => ¬ b < a := by
  obtain ⟨h1, h2, h3⟩ := Classical.choose_spec (sort_ex ((ups l).map (compV l)))
  refine ⟨h1, fun t => (h2 t).trans ?_, h3⟩
  rw [List.mem_map]
  exact ⟨fun ⟨c, hc, e⟩ => ⟨c, ups_mem.1 hc, e.symm⟩, fun ⟨c, hc, e⟩ => ⟨c, ups_mem.2 hc, e.symm⟩⟩
/-! ### a bunch gone through -/
abbrev BS := Txt × Txt
def freshM (l F : Txt) (x : Nat) : Txt := (mateV l x).filter fun m => !decide (m ∈ F)
def bStep (l : Txt) (t : BS) : BS := (t.1 ++ freshM l t.1 (t.2.headD 0), t.2.drop 1 ++ freshM l t.1 (t.2.headD 0))
def bRun (l : Txt) : Nat → BS → BS
  | 0, t => t
  | n + 1, t => if t.2 = [] then t else bRun l n (bStep l t)
structure BGood (l : Txt) (c : Nat) (t : BS) : Prop where
  nodup : t.1.Nodup
  sub : ∀ x ∈ t.2, x ∈ t.1
  mem : ∀ x ∈ t.1, x ∈ l ∧ Rch l c x
  own : c ∈ t.1
  closed : ∀ x ∈ t.1, x ∉ t.2 → ∀ m ∈ mateV l x, m ∈ t.1
def bMu (t : BS) : Nat := 2 * (10 - t.1.length) + t.2.length
theorem fresh_mem {F : Txt} {x : Nat} : m ∈ freshM l F x ↔ m ∈ mateV l x ∧ m ∉ F := by
  unfold freshM
  rw [List.mem_filter, Bool.not_eq_true', decide_eq_false_iff_not]
theorem freshM_nodup (l F : Txt) (x : Nat) : (freshM l F x).Nodup := by
  refine List.Nodup.sublist List.filter_sublist ?_
  unfold mateV
  exact List.Nodup.sublist List.filter_sublist (ups_nodup l)
theorem mate_lk {x : Nat} (hx : x ∈ l) (h : m ∈ mateV l x) : Lk l x m := by
  obtain ⟨h1, h2, h3⟩ := mate_mem.1 h
  exact ⟨hx, h1, Ne.symm h2, h3⟩
theorem bStep_good {t : BS} (g : BGood l c t) (hne : t.2 ≠ []) : BGood l c (bStep l t) := by
  obtain ⟨F, W⟩ := t
  match W, hne with
  | x :: W, _ =>
    have hx : x ∈ F := g.sub x (List.mem_cons_self ..)
    obtain ⟨hxl, hxr⟩ := g.mem x hx
    show BGood l c (F ++ freshM l F x, W ++ freshM l F x)
    refine ⟨?_, fun y hy => ?_, fun y hy => ?_, List.mem_append.mpr (.inl g.own), fun y hy hn k hk => ?_⟩
    · rw [List.nodup_append]
      refine ⟨g.nodup, freshM_nodup l F x, fun a ha b hb e => ?_⟩
      exact (fresh_mem.1 hb).2 (e ▸ ha)
    · rcases List.mem_append.mp hy with z | z
      · exact List.mem_append.mpr (.inl (g.sub y (List.mem_cons_of_mem _ z)))
      · exact List.mem_append.mpr (.inr z)
    · rcases List.mem_append.mp hy with z | z
      · exact g.mem y z
      · have k := mate_lk hxl (fresh_mem.1 z).1
        exact ⟨k.2.1, .step hxr k⟩
    · have hn1 : y ∉ W := fun z => hn (List.mem_append.mpr (.inl z))
      have hn2 : y ∉ freshM l F x := fun z => hn (List.mem_append.mpr (.inr z))
      have hyF : y ∈ F := (List.mem_append.mp hy).resolve_right hn2
      by_cases e : y = x
      · subst e
        by_cases hkF : k ∈ F
        · exact List.mem_append.mpr (.inl hkF)
        · exact List.mem_append.mpr (.inr (fresh_mem.2 ⟨hk, hkF⟩))
      · refine List.mem_append.mpr (.inl (g.closed y hyF (fun z => ?_) k hk))
        rcases List.mem_cons.mp z with z | z
        · exact e z
        · exact hn1 z
theorem bGood_len (h : Proper l ls) {t : BS} (g : BGood l c t) : t.1.length ≤ 10 := by
  have y := sub_len (k := t.1) (u := ls) g.nodup fun x hx => h.mem.1 (g.mem x hx).1
  have := h.2.2.1
  omega
theorem bStep_mu (h : Proper l ls) {t : BS} (g : BGood l c t) (hne : t.2 ≠ []) : bMu (bStep l t) < bMu t := by
  have l1 := bGood_len h g
  have l2 := bGood_len h (bStep_good g hne)
  obtain ⟨F, W⟩ := t
  match W, hne with
  | x :: W, _ =>
    change F.length ≤ 10 at l1
    change (F ++ freshM l F x).length ≤ 10 at l2
    show 2 * (10 - (F ++ freshM l F x).length) + (W ++ freshM l F x).length < 2 * (10 - F.length) + (x :: W).length
    rw [List.length_append] at l2 ⊢
    rw [List.length_append, List.length_cons]
    omega
theorem bRun_end (h : Proper l ls) : ∀ (n : Nat) (t : BS), BGood l c t → bMu t ≤ n → (bRun l n t).2 = [] ∧ BGood l c (bRun l n t)
  | 0, t, g, hm => by
    unfold bMu at hm
    have e : t.2.length = 0 := by omega
    exact ⟨List.length_eq_zero_iff.mp e, g⟩
  | n + 1, t, g, hm => by
    show (if t.2 = [] then t else bRun l n (bStep l t)).2 = [] ∧ BGood l c (if t.2 = [] then t else bRun l n (bStep l t))
    by_cases e : t.2 = []
    · rw [if_pos e]
      exact ⟨e, g⟩
    · rw [if_neg e]
      have := bStep_mu h g e
      exact bRun_end h n _ (bStep_good g e) (by omega)
theorem bStart (hc : c ∈ l) : BGood l c ([c], [c]) :=
  ⟨by simp, fun x hx => hx, fun x hx => by rw [List.mem_singleton.mp hx]; exact ⟨hc, .refl⟩, List.mem_singleton.mpr rfl, fun x hx hn => absurd hx hn⟩
theorem bGood_comp {t : BS} (g : BGood l c t) (e : t.2 = []) : ups t.1 = compV l c := by
  refine up_ext (ups_up _) (comp_up l c) fun m => ?_
  rw [ups_mem, comp_mem]
  constructor
  · exact fun y => g.mem m y
  rintro ⟨hm, y⟩
  clear hm
  induction y with
  | refl => exact g.own
  | step _ k ih => exact g.closed _ ih (by rw [e]; exact List.not_mem_nil) _ (mate_mem.2 ⟨k.2.1, Ne.symm k.2.2.1, k.2.2.2⟩)
/-! ### the law's lots -/
def mrg (lo hi v : Nat) : Nat := if v = hi then lo else v
def mergeF (f : Nat → Nat) (p : Txt) : Nat → Nat := fun x => mrg (min (f (p.getD 0 0)) (f (p.getD 1 0))) (max (f (p.getD 0 0)) (f (p.getD 1 0))) (f x)
structure LGood (l : Txt) (done : List Txt) (f : Nat → Nat) : Prop where
  rep : ∀ x ∈ l, f x ∈ l ∧ Rch l x (f x)
  eq : ∀ p ∈ done, f (p.getD 0 0) = f (p.getD 1 0)
theorem lGood_step {done : List Txt} {f : Nat → Nat} {a b : Nat} (g : LGood l done f) (k : Lk l a b) : LGood l (done ++ [[a, b]]) (mergeF f [a, b]) := by
  have ra := g.rep a k.1
  have rb := g.rep b k.2.1
  have hab : Rch l (f a) (f b) := ra.2.symm.trans ((Rch.step .refl k).trans rb.2)
  have e : ∀ x, mergeF f [a, b] x = mrg (min (f a) (f b)) (max (f a) (f b)) (f x) := fun _ => rfl
  refine ⟨fun x hx => ?_, fun p hp => ?_⟩
  · rw [e]
    obtain ⟨h1, h2⟩ := g.rep x hx
    unfold mrg
    split
    · rename_i q
      rcases Nat.le_total (f a) (f b) with y | y
      · rw [Nat.min_eq_left y]
        rw [Nat.max_eq_right y] at q
        rw [q] at h2
        exact ⟨ra.1, h2.trans hab.symm⟩
      · rw [Nat.min_eq_right y]
        rw [Nat.max_eq_left y] at q
        rw [q] at h2
        exact ⟨rb.1, h2.trans hab⟩
    · exact ⟨h1, h2⟩
  · rcases List.mem_append.mp hp with y | y
    · rw [e, e, g.eq p y]
    · rw [List.mem_singleton.mp y]
      show mergeF f [a, b] a = mergeF f [a, b] b
      rw [e, e]
      unfold mrg
      rcases Nat.le_total (f a) (f b) with y | y
      · rw [Nat.min_eq_left y, Nat.max_eq_right y, if_pos rfl]
        split <;> rfl
      · rw [Nat.min_eq_right y, Nat.max_eq_left y, if_pos rfl]
        split <;> rfl
def lotF (l : Txt) : Nat → Nat := (lpsV l).foldl mergeF id
theorem lGood_fold (h : ∀ p ∈ lpsV l, ∃ a b, p = [a, b] ∧ Lk l a b) : ∀ (ps done : List Txt) (f : Nat → Nat), (∀ p ∈ ps, p ∈ lpsV l) → LGood l done f → LGood l (done ++ ps) (ps.foldl mergeF f)
  | [], done, f, _, g => by simpa using g
  | p :: ps, done, f, hp, g => by
    obtain ⟨a, b, rfl, k⟩ := h p (hp p (List.mem_cons_self ..))
    have y := lGood_fold h ps (done ++ [[a, b]]) (mergeF f [a, b]) (fun q hq => hp q (List.mem_cons_of_mem _ hq)) (lGood_step g k)
    rw [List.append_assoc] at y
    exact y
theorem lps_lk (l : Txt) : ∀ p ∈ lpsV l, ∃ a b, p = [a, b] ∧ Lk l a b := fun p hp => by
  rw [lps_eq] at hp
  obtain ⟨a, b, rfl, ha, hb, hlt, hk⟩ := pairL_mem.1 hp
  exact ⟨a, b, rfl, ups_mem.1 ha, ups_mem.1 hb, Nat.ne_of_lt hlt, hk⟩
theorem lotF_good (l : Txt) : LGood l (lpsV l) (lotF l) := by
  have y := lGood_fold (lps_lk l) (lpsV l) [] id (fun _ h => h) ⟨fun x hx => ⟨hx, .refl⟩, fun p hp => by cases hp⟩
  rw [List.nil_append] at y
  exact y
theorem lotF_iff (hc : c ∈ l) (hm : m ∈ l) : lotF l c = lotF l m ↔ Rch l c m := by
  have g := lotF_good l
  constructor
  · intro e
    have h1 := (g.rep c hc).2
    have h2 := (g.rep m hm).2
    rw [← e] at h2
    exact h1.trans h2.symm
  · intro h
    induction h with
    | refl => rfl
    | @step x y _ k ih =>
      refine (ih k.1).trans ?_
      rcases Nat.lt_or_gt_of_ne k.2.2.1 with z | z
      · exact g.eq [x, y] (by rw [lps_eq]; exact pairL_mem.2 ⟨x, y, rfl, ups_mem.2 k.1, ups_mem.2 k.2.1, z, k.2.2.2⟩)
      · exact (g.eq [y, x] (by rw [lps_eq]; exact pairL_mem.2 ⟨y, x, rfl, ups_mem.2 k.2.1, ups_mem.2 k.1, z, by rw [lk_symm]; exact k.2.2.2⟩)).symm
def lotV (l : Txt) (own : Nat) : Txt := (ups l).filter fun x => decide (lotF l x = own)
def lotsV (l : Txt) : List Txt := ((ups l).map (lotV l)).filter fun t => !decide (t = [])
theorem lot_comp {own : Nat} (hm : m ∈ lotV l own) : m ∈ l ∧ lotV l own = compV l m := by
  obtain ⟨h1, h2⟩ := List.mem_filter.mp hm
  have hml := ups_mem.1 h1
  have e := of_decide_eq_true h2
  refine ⟨hml, up_ext ((ups_up l).filter _) (comp_up l m) fun x => ?_⟩
  show x ∈ (ups l).filter (fun x => decide (lotF l x = own)) ↔ _
  rw [List.mem_filter, decide_eq_true_eq, comp_mem, ups_mem]
  refine and_congr_right fun hx => ?_
  rw [← e, ← lotF_iff hml hx]
  exact eq_comm
theorem nodup_mapT {α β : Type} {f : α → β} : ∀ {k : List α}, k.Nodup → (∀ a ∈ k, ∀ b ∈ k, f a = f b → a = b) → (k.map f).Nodup
  | [], _, _ => List.nodup_nil
  | c :: k, h, i => by
    obtain ⟨h1, h2⟩ := List.nodup_cons.mp h
    rw [List.map_cons, List.nodup_cons]
    refine ⟨fun y => ?_, nodup_mapT h2 fun a ha b hb => i a (List.mem_cons_of_mem _ ha) b (List.mem_cons_of_mem _ hb)⟩
    obtain ⟨e, he, q⟩ := List.mem_map.mp y
    exact h1 (i e (List.mem_cons_of_mem _ he) c (List.mem_cons_self ..) q ▸ he)
theorem lots_perm (l : Txt) : (bunchesV l).Perm (lotsV l) := by
  obtain ⟨b1, b2, _⟩ := bunches_spec l
  have e : lotsV l = ((ups l).filter fun own => !decide (lotV l own = [])).map (lotV l) := by
    unfold lotsV
    rw [List.filter_map]
    rfl
  have nd : (lotsV l).Nodup := by
    rw [e]
    refine nodup_mapT (List.Nodup.sublist List.filter_sublist (ups_nodup l)) fun a ha b hb q => ?_
    have hne : lotV l a ≠ [] := by simpa using (List.mem_filter.mp ha).2
    obtain ⟨x, hx⟩ := List.exists_mem_of_ne_nil _ hne
    have e1 := of_decide_eq_true (List.mem_filter.mp hx).2
    rw [q] at hx
    exact e1.symm.trans (of_decide_eq_true (List.mem_filter.mp hx).2)
  refine (List.perm_ext_iff_of_nodup b1 nd).mpr fun t => ?_
  rw [b2, e, List.mem_map]
  constructor
  · rintro ⟨c, hc, rfl⟩
    have hin : c ∈ lotV l (lotF l c) := List.mem_filter.mpr ⟨ups_mem.2 hc, decide_eq_true rfl⟩
    refine ⟨lotF l c, List.mem_filter.mpr ⟨ups_mem.2 ((lotF_good l).rep c hc).1, ?_⟩, (lot_comp hin).2⟩
    rw [Bool.not_eq_true', decide_eq_false_iff_not]
    intro y
    rw [y] at hin
    cases hin
  · rintro ⟨own, ho, rfl⟩
    have hne : lotV l own ≠ [] := by simpa using (List.mem_filter.mp ho).2
    obtain ⟨x, hx⟩ := List.exists_mem_of_ne_nil _ hne
    obtain ⟨h1, h2⟩ := lot_comp hx
    exact ⟨x, h1, h2⟩
/-! ### bunches part the letters -/
theorem bunches_flat (l : Txt) : (bunchesV l).flatten.Perm (ups l) := by
  obtain ⟨b1, b2, _⟩ := bunches_spec l
  have nd : (bunchesV l).flatten.Nodup := by
    have key : ∀ bs : List Txt, bs.Nodup → (∀ t ∈ bs, ∃ c ∈ l, t = compV l c) → bs.flatten.Nodup := by
      intro bs
      induction bs with
      | nil => intro _ _; exact List.nodup_nil
      | cons t bs ih =>
        intro hn hb
        obtain ⟨h1, h2⟩ := List.nodup_cons.mp hn
        obtain ⟨c, hc, et⟩ := hb t (List.mem_cons_self ..)
        rw [List.flatten_cons, List.nodup_append]
        refine ⟨by rw [et]; exact (comp_up l c).imp fun h => Nat.ne_of_lt h, ih h2 fun s hs => hb s (List.mem_cons_of_mem _ hs), fun a ha b hbm e => ?_⟩
        subst e
        obtain ⟨s, hs, has⟩ := List.mem_flatten.mp hbm
        obtain ⟨d, hd, es⟩ := hb s (List.mem_cons_of_mem _ hs)
        rw [et, comp_mem] at ha
        rw [es, comp_mem] at has
        have : t = s := by rw [et, es]; exact comp_same (ha.2.trans has.2.symm)
        exact h1 (this ▸ hs)
    exact key _ b1 fun t ht => (b2 t).1 ht
  refine (List.perm_ext_iff_of_nodup nd (ups_nodup l)).mpr fun c => ?_
  rw [List.mem_flatten, ups_mem]
  constructor
  · rintro ⟨t, ht, hc⟩
    obtain ⟨d, _, e⟩ := (b2 t).1 ht
    rw [e, comp_mem] at hc
    exact hc.1
  · intro hc
    exact ⟨compV l c, (b2 _).2 ⟨c, hc, rfl⟩, comp_mem.2 ⟨hc, .refl⟩⟩
theorem bunches_len (l : Txt) : (bunchesV l).length ≤ (ups l).length := by
  obtain ⟨b1, b2, _⟩ := bunches_spec l
  have y := sub_lenT (k := bunchesV l) (u := (ups l).map (compV l)) b1 fun t ht => by
    obtain ⟨c, hc, e⟩ := (b2 t).1 ht
    exact List.mem_map.mpr ⟨c, ups_mem.2 hc, e.symm⟩
  rw [List.length_map] at y
  exact y
/-- linked letters lie in the same bunches -/
theorem bunches_link {t : Txt} (k : Lk l c m) (ht : t ∈ bunchesV l) : c ∈ t ↔ m ∈ t := by
  obtain ⟨d, _, e⟩ := ((bunches_spec l).2.1 t).1 ht
  rw [e, comp_mem, comp_mem]
  exact ⟨fun y => ⟨k.2.1, .step y.2 k⟩, fun y => ⟨k.1, .step y.2 k.symm⟩⟩
end
end Law

namespace Law
open PySem L2 Wk
/-! ### plain: bunches of what is put in -/
section
variable {l o ls os : Txt} {n c m : Nat}
theorem put_facts (h : Proper l ls) (g : Proper o os) (hs : ls.length + os.length ≤ 10) (hn : n ≤ l.length) :
    (∀ c, c ∈ putV l (n : Int) o ↔ c ∈ l ∨ c ∈ renV o (freshV l)) ∧ (∀ c, c ∈ renV o (freshV l) → c ∉ l) ∧ (∀ c m, c ∈ l → m ∈ l → lkB (putV l (n : Int) o) c m = lkB l c m) ∧ (∀ c m, c ∈ renV o (freshV l) → m ∈ renV o (freshV l) → lkB (putV l (n : Int) o) c m = lkB (renV o (freshV l)) c m) ∧ ∀ c m, c ∈ l → m ∈ renV o (freshV l) → lkB (putV l (n : Int) o) c m = false := by
  have hl := put_room h g hs
  have pr := ren_proper h g hs
  have pd := put_proper h g hs hn
  have nr : ∀ c, c ∈ renV o (freshV l) → c ∉ l := fun c hc => (fresh_not (ren_mem hl hc)).1
  have own := put_own (o := o) hn hl
  have oth := put_other (o := o) hn hl
  have md : ∀ c, c ∈ putV l (n : Int) o ↔ c ∈ l ∨ c ∈ renV o (freshV l) := fun c => by
    rw [pd.mem, List.mem_append, ← h.mem, ← pr.mem]
  have cross : ∀ c m, c ∈ l → m ∈ renV o (freshV l) → lkB (putV l (n : Int) o) c m = false := fun c m hc hm => by
    rw [put_parts hn]
    refine lk_cross_no (fun y => nr c y hc) (fun y => nr m hm (List.mem_of_mem_take y)) (fun y => nr m hm (List.mem_of_mem_drop y)) (pr.two m hm) ?_ (fun y => nr m hm (y ▸ hc))
    rw [← List.count_append, List.take_append_drop]
    exact h.two c hc
  have inl : ∀ c m, c ∈ l → m ∈ l → lkB (putV l (n : Int) o) c m = lkB l c m := fun c m hc hm => by
    have y := lk_filter (d := putV l (n : Int) o) (p := fun c => decide (c ∈ l)) (decide_eq_true hc) (decide_eq_true hm)
    rw [own] at y
    exact y.symm
  have inr : ∀ c m, c ∈ renV o (freshV l) → m ∈ renV o (freshV l) → lkB (putV l (n : Int) o) c m = lkB (renV o (freshV l)) c m := fun c m hc hm => by
    have y := lk_filter (d := putV l (n : Int) o) (p := fun c => !decide (c ∈ l)) (by simpa using nr c hc) (by simpa using nr m hm)
    rw [oth] at y
    exact y.symm
  exact ⟨md, nr, inl, inr, cross⟩
theorem put_lk (h : Proper l ls) (g : Proper o os) (hs : ls.length + os.length ≤ 10) (hn : n ≤ l.length) : Lk (putV l (n : Int) o) c m ↔ Lk l c m ∨ Lk (renV o (freshV l)) c m := by
  obtain ⟨f1, f2, f3, f4, f5⟩ := put_facts h g hs hn
  constructor
  · rintro ⟨hc, hm, hne, hk⟩
    rcases (f1 c).1 hc with hc | hc <;> rcases (f1 m).1 hm with hm | hm
    · exact .inl ⟨hc, hm, hne, by rw [← f3 c m hc hm]; exact hk⟩
    · rw [f5 c m hc hm] at hk
      cases hk
    · rw [lk_symm, f5 m c hm hc] at hk
      cases hk
    · exact .inr ⟨hc, hm, hne, by rw [← f4 c m hc hm]; exact hk⟩
  · rintro (⟨hc, hm, hne, hk⟩ | ⟨hc, hm, hne, hk⟩)
    · exact ⟨(f1 c).2 (.inl hc), (f1 m).2 (.inl hm), hne, by rw [f3 c m hc hm]; exact hk⟩
    · exact ⟨(f1 c).2 (.inr hc), (f1 m).2 (.inr hm), hne, by rw [f4 c m hc hm]; exact hk⟩
theorem put_rchL (h : Proper l ls) (g : Proper o os) (hs : ls.length + os.length ≤ 10) (hn : n ≤ l.length) (hc : c ∈ l) : Rch (putV l (n : Int) o) c m ↔ Rch l c m := by
  obtain ⟨f1, f2, _⟩ := put_facts h g hs hn
  constructor
  · intro y
    have key : Rch l c m ∧ m ∈ l := by
      induction y with
      | refl => exact ⟨.refl, hc⟩
      | step _ k ih =>
        rcases (put_lk h g hs hn).1 k with k | k
        · exact ⟨.step ih.1 k, k.2.1⟩
        · exact absurd ih.2 (f2 _ k.1)
    exact key.1
  · intro y
    induction y with
    | refl => exact .refl
    | step _ k ih => exact .step ih ((put_lk h g hs hn).2 (.inl k))
theorem put_rchR (h : Proper l ls) (g : Proper o os) (hs : ls.length + os.length ≤ 10) (hn : n ≤ l.length) (hc : c ∈ renV o (freshV l)) : Rch (putV l (n : Int) o) c m ↔ Rch (renV o (freshV l)) c m := by
  obtain ⟨f1, f2, _⟩ := put_facts h g hs hn
  constructor
  · intro y
    have key : Rch (renV o (freshV l)) c m ∧ m ∈ renV o (freshV l) := by
      induction y with
      | refl => exact ⟨.refl, hc⟩
      | step _ k ih =>
        rcases (put_lk h g hs hn).1 k with k | k
        · exact absurd k.1 (f2 _ ih.2)
        · exact ⟨.step ih.1 k, k.2.1⟩
    exact key.1
  · intro y
    induction y with
    | refl => exact .refl
    | step _ k ih => exact .step ih ((put_lk h g hs hn).2 (.inr k))
theorem put_comp (h : Proper l ls) (g : Proper o os) (hs : ls.length + os.length ≤ 10) (hn : n ≤ l.length) : (c ∈ l → compV (putV l (n : Int) o) c = compV l c) ∧ (c ∈ renV o (freshV l) → compV (putV l (n : Int) o) c = compV (renV o (freshV l)) c) := by
  obtain ⟨f1, f2, _⟩ := put_facts h g hs hn
  constructor
  · intro hc
    refine up_ext (comp_up _ _) (comp_up _ _) fun m => ?_
    rw [comp_mem, comp_mem, put_rchL h g hs hn hc]
    exact ⟨fun y => ⟨y.2.mem hc, y.2⟩, fun y => ⟨(f1 m).2 (.inl y.1), y.2⟩⟩
  · intro hc
    refine up_ext (comp_up _ _) (comp_up _ _) fun m => ?_
    rw [comp_mem, comp_mem, put_rchR h g hs hn hc]
    exact ⟨fun y => ⟨y.2.mem hc, y.2⟩, fun y => ⟨(f1 m).2 (.inr y.1), y.2⟩⟩
theorem put_bunches (h : Proper l ls) (g : Proper o os) (hs : ls.length + os.length ≤ 10) (hn : n ≤ l.length) : (bunchesV (putV l (n : Int) o)).Perm (bunchesV l ++ bunchesV (renV o (freshV l))) := by
  obtain ⟨f1, f2, _⟩ := put_facts h g hs hn
  obtain ⟨b1, b2, _⟩ := bunches_spec (putV l (n : Int) o)
  obtain ⟨c1, c2, _⟩ := bunches_spec l
  obtain ⟨d1, d2, _⟩ := bunches_spec (renV o (freshV l))
  refine (List.perm_ext_iff_of_nodup b1 ?_).mpr fun t => ?_
  · rw [List.nodup_append]
    refine ⟨c1, d1, fun a ha b hb e => ?_⟩
    subst e
    obtain ⟨x, hx, ex⟩ := (c2 a).1 ha
    obtain ⟨y, hy, ey⟩ := (d2 a).1 hb
    have hin : x ∈ a := by rw [ex]; exact comp_mem.2 ⟨hx, .refl⟩
    rw [ey, comp_mem] at hin
    exact f2 x hin.1 hx
  · rw [List.mem_append, b2, c2, d2]
    constructor
    · rintro ⟨c, hc, rfl⟩
      rcases (f1 c).1 hc with hc | hc
      · exact .inl ⟨c, hc, (put_comp h g hs hn).1 hc⟩
      · exact .inr ⟨c, hc, (put_comp h g hs hn).2 hc⟩
    · rintro (⟨c, hc, rfl⟩ | ⟨c, hc, rfl⟩)
      · exact ⟨c, (f1 c).2 (.inl hc), ((put_comp h g hs hn).1 hc).symm⟩
      · exact ⟨c, (f1 c).2 (.inr hc), ((put_comp h g hs hn).2 hc).symm⟩
/-! ### bunches under other letters -/
theorem map_inj_on {f : Nat → Nat} (i : Inj f o) : ∀ {a b : Txt}, (∀ x ∈ a, x ∈ o) → (∀ x ∈ b, x ∈ o) → a.map f = b.map f → a = b
  | [], [], _, _, _ => rfl
  | [], _ :: _, _, _, e => by cases e
  | _ :: _, [], _, _, e => by cases e
  | x :: a, y :: b, ha, hb, e => by
    rw [List.map_cons, List.map_cons] at e
    injection e with e1 e2
    rw [i x (ha x (List.mem_cons_self ..)) y (hb y (List.mem_cons_self ..)) e1, map_inj_on i (fun z hz => ha z (List.mem_cons_of_mem _ hz)) (fun z hz => hb z (List.mem_cons_of_mem _ hz)) e2]
theorem told_map {f : Nat → Nat} (i : Inj f o) (hc : c ∈ o) (hm : m ∈ o) : toldV (o.map f) (f c) (f m) = (toldV o c m).map f := by
  unfold toldV
  rw [List.filter_map]
  congr 1
  refine List.filter_congr fun x hx => ?_
  show decide (f x ∈ [f c] ++ [f m]) = decide (x ∈ [c] ++ [m])
  refine decide_eq_decide.mpr ?_
  simp only [List.cons_append, List.nil_append, List.mem_cons, List.not_mem_nil, or_false]
  exact ⟨fun y => y.elim (fun y => .inl (i x hx c hc y)) fun y => .inr (i x hx m hm y), fun y => y.elim (fun y => .inl (by rw [y])) fun y => .inr (by rw [y])⟩
theorem lk_map {f : Nat → Nat} (i : Inj f o) (hc : c ∈ o) (hm : m ∈ o) : lkB (o.map f) (f c) (f m) = lkB o c m := by
  rw [Bool.eq_iff_iff, lk_iff, lk_iff, told_map i hc hm]
  have sub : ∀ x ∈ toldV o c m, x ∈ o := fun x hx => (List.mem_filter.mp hx).1
  have s1 : ∀ x ∈ ([c, m, c, m] : Txt), x ∈ o := by
    intro x hx
    simp only [List.mem_cons, List.not_mem_nil, or_false] at hx
    rcases hx with e | e | e | e <;> rw [e] <;> assumption
  have s2 : ∀ x ∈ ([m, c, m, c] : Txt), x ∈ o := by
    intro x hx
    simp only [List.mem_cons, List.not_mem_nil, or_false] at hx
    rcases hx with e | e | e | e <;> rw [e] <;> assumption
  constructor
  · rintro (e | e)
    · exact .inl (map_inj_on i sub s1 e)
    · exact .inr (map_inj_on i sub s2 e)
  · rintro (e | e)
    · rw [e]; exact .inl rfl
    · rw [e]; exact .inr rfl
theorem rch_map {f : Nat → Nat} (i : Inj f o) (hc : c ∈ o) (hm : m ∈ o) : Rch (o.map f) (f c) (f m) ↔ Rch o c m := by
  constructor
  · intro y
    have key : ∀ z, Rch (o.map f) (f c) z → ∃ k ∈ o, z = f k ∧ Rch o c k := by
      intro z y
      induction y with
      | refl => exact ⟨c, hc, rfl, .refl⟩
      | step _ k ih =>
        obtain ⟨k1, h1, rfl, h3⟩ := ih
        obtain ⟨k2, h4, rfl⟩ := List.mem_map.mp k.2.1
        refine ⟨k2, h4, rfl, .step h3 ⟨h1, h4, fun e => k.2.2.1 (by rw [e]), ?_⟩⟩
        rw [← lk_map i h1 h4]
        exact k.2.2.2
    obtain ⟨k, hk, e, h3⟩ := key _ y
    rw [i m hm k hk e]
    exact h3
  · intro y
    clear hm
    induction y with
    | refl => exact .refl
    | step _ k ih => exact .step ih ⟨List.mem_map.mpr ⟨_, k.1, rfl⟩, List.mem_map.mpr ⟨_, k.2.1, rfl⟩, fun e => k.2.2.1 (i _ k.1 _ k.2.1 e), by rw [lk_map i k.1 k.2.1]; exact k.2.2.2⟩
theorem bunches_map {f : Nat → Nat} (i : Inj f o) : (bunchesV (o.map f)).length = (bunchesV o).length := by
  obtain ⟨b1, b2, _⟩ := bunches_spec (o.map f)
  obtain ⟨c1, c2, _⟩ := bunches_spec o
  have img : ∀ c ∈ o, ups ((compV o c).map f) = compV (o.map f) (f c) := fun c hc => by
    refine up_ext (ups_up _) (comp_up _ _) fun x => ?_
    rw [ups_mem, List.mem_map, comp_mem, List.mem_map]
    constructor
    · rintro ⟨k, hk, rfl⟩
      obtain ⟨h1, h2⟩ := comp_mem.1 hk
      exact ⟨⟨k, h1, rfl⟩, (rch_map i hc h1).2 h2⟩
    · rintro ⟨⟨k, hk, rfl⟩, h2⟩
      exact ⟨k, comp_mem.2 ⟨hk, (rch_map i hc hk).1 h2⟩, rfl⟩
  have p : ((bunchesV o).map fun t => ups (t.map f)).Perm (bunchesV (o.map f)) := by
    refine (List.perm_ext_iff_of_nodup (nodup_mapT c1 fun a ha b hb e => ?_) b1).mpr fun t => ?_
    · obtain ⟨x, hx, rfl⟩ := (c2 a).1 ha
      obtain ⟨y, hy, rfl⟩ := (c2 b).1 hb
      rw [img x hx, img y hy] at e
      exact comp_same ((rch_map i hx hy).1 ((comp_iff (List.mem_map.mpr ⟨x, hx, rfl⟩)).1 e))
    · rw [List.mem_map, b2]
      constructor
      · rintro ⟨s, hs, rfl⟩
        obtain ⟨x, hx, rfl⟩ := (c2 s).1 hs
        exact ⟨f x, List.mem_map.mpr ⟨x, hx, rfl⟩, img x hx⟩
      · rintro ⟨z, hz, rfl⟩
        obtain ⟨x, hx, rfl⟩ := List.mem_map.mp hz
        exact ⟨compV o x, (c2 _).2 ⟨x, hx, rfl⟩, img x hx⟩
  have y := p.length_eq
  rw [List.length_map] at y
  exact y.symm
theorem put_many (h : Proper l ls) (g : Proper o os) (hs : ls.length + os.length ≤ 10) (hn : n ≤ l.length) : (bunchesV (putV l (n : Int) o)).length = (bunchesV l).length + (bunchesV o).length ∧ ∀ t ∈ bunchesV l, t ∈ bunchesV (putV l (n : Int) o) := by
  have p := put_bunches h g hs hn
  have e : (bunchesV (renV o (freshV l))).length = (bunchesV o).length := bunches_map (ren_inj (fresh_nodup l) (put_room h g hs))
  refine ⟨?_, fun t ht => p.mem_iff.mpr (List.mem_append.mpr (.inl ht))⟩
  rw [p.length_eq, List.length_append, e]
end
end Law

namespace Law
open PySem L2 Wk
/-! ### bunch_with, bunches_of, bunches -/
theorem ups_self {u : Txt} (h : u.Nodup) : (ups u).Perm u := (List.perm_ext_iff_of_nodup (ups_nodup u) h).mpr fun _ => ups_mem
abbrev sBunW : Stmt := topS 22
noncomputable def prBunW : Pr := { A := Txt × Nat, ins := fun a => [vl a.1, vl ([a.2] : Txt)], pre := fun a => (∃ ls, Proper a.1 ls) ∧ a.2 ∈ a.1, res := fun a => rv (compV a.1 a.2 : Txt), outs := fun _ => [] }
abbrev nsBunW : List Str := ["row", "letter", "found", "waiting", "fresh", "mate"]
theorem scBunW : FnScope nsBunW ["row", "letter"] (defScope sBunW) := ⟨rfl, rfl, rfl, by decide +kernel, rfl, by decide +kernel, by decide +kernel⟩
theorem ok_bunw {P : Program} {w : World} {K : PySem.W.Frag} {mg : Str → Option Value} {base : Heap} {f : Addr} {fd : FuncData} (F : Fun K "bunch_with" "bunch_with" sBunW f fd) (Fm : Fnc P w K mg base 3 "mates_of" ["row", "letter"] prMates) (m : Bare mg) : FnG P w K mg base CX0 4 f fd ["row", "letter"] prBunW.sp := by
  refine fn_ok F scBunW (fun _ => rfl) (fun _ => rfl) fun cdv A outer s0 H Ee fm a hpre => ?_
  obtain ⟨l, c⟩ := a
  obtain ⟨⟨ls, pr⟩, hc⟩ := hpre
  dsimp only at pr hc
  have hlen := pr.len
  have h2 := pr.2.2.1
  let St : BS → List Wk.Slot := fun t => [vl (l : Txt), vl ([c] : Txt), vl (t.1 : Txt), vl (t.2 : Txt), .no, .no]
  obtain ⟨tE, hE⟩ : ∃ tE, bRun l (bMu ([c], [c])) ([c], [c]) = tE := ⟨_, rfl⟩
  obtain ⟨e0, gE⟩ := bRun_end pr _ _ (bStart hc) (Nat.le_refl _)
  rw [hE] at e0 gE
  have eC : ups tE.1 = compV l c := bGood_comp gE e0
  have lE := bGood_len pr gE
  refine ⟨St tE, fun pc hpc => by simp [prBunW] at hpc, ?_⟩
  refine .ret (ρ := Txt) (b := compV l c) (g_cons (g1_asg (a := (([c], [c]) : Txt × Txt)) (js := [2] ++ [3]) (sl2 := St ([c], [c])) (x_pair (a_v (x_var fm 1 rfl (fun _ => .inl rfl) rfl) (a_v (x_var fm 1 rfl (fun _ => .inl rfl) rfl) a_nil))) (tg_pair fm (tg_name fm 2 rfl (fun _ => .inr rfl) (fun _ => .inl rfl)) (tg_name fm 3 rfl (fun _ => .inl rfl) (fun _ => .inr rfl)))) (g_cons
    (g1_while fm St ([c], [c]) tE (fun t => !decide (t.2 = [])) (bStep l) (fun t => (BGood l c t ∧ bMu t ≤ 19) ∧ ∃ n, bRun l n t = tE) bMu (Wks.refl _) ⟨⟨bStart hc, by show 2 * (10 - 1) + 1 ≤ 19; decide⟩, _, hE⟩ (fun t iv => t_neS fm (x_var fm 3 rfl (fun _ => .inl rfl) rfl) (x_str fm [])) (fun t iv ht => ?_) (fun t iv ht => ?_))
    (g_end (g1_ret ?_))))
  · obtain ⟨⟨g, mu⟩, n, hn⟩ := iv
    have hne : t.2 ≠ [] := by simpa using ht
    obtain ⟨F1, W1⟩ := t
    dsimp only at hne
    obtain ⟨x, W, rfl⟩ : ∃ x W, W1 = x :: W := by
      match W1, hne with
      | x :: W, _ => exact ⟨x, W, rfl⟩
    have hx : x ∈ F1 := g.sub x (List.mem_cons_self ..)
    have hxl : x ∈ l := (g.mem x hx).1
    have g2 := bStep_good g hne
    have l2 := bGood_len pr g2
    have mu2 := bStep_mu pr g hne
    have ho := occ_two (pr.occ x hxl)
    have em := once_mates pr hxl
    have em2 : onceV (cutL l (some (iAt l x + 1)) (some (jAt l x))) = mateV l x := em
    have lM : (mateV l x).length ≤ 20 := by
      have y1 : (mateV l x).length ≤ (ups l).length := List.length_filter_le _ _
      have y2 := ups_len l
      omega
    have lfr : (freshM l F1 x).length ≤ (mateV l x).length := List.length_filter_le _ _
    have est : bStep l (F1, x :: W) = (F1 ++ freshM l F1 x, W ++ freshM l F1 x) := rfl
    have efr : freshM l F1 x = (((sgs (mateV l x)).filter fun t => !decide (t.headD 0 ∈ F1)).map id).flatten := by
      rw [List.map_id, sgs_filter, sgs_flat]
      rfl
    rw [est] at l2 mu2 g2 ⊢
    obtain ⟨M, hM⟩ : ∃ M : Txt, mateV l x = M := ⟨_, rfl⟩
    rw [hM] at lM lfr efr em2
    obtain ⟨fr, hfr⟩ : ∃ fr : Txt, freshM l F1 x = fr := ⟨_, rfl⟩
    rw [hfr] at l2 mu2 g2 lfr efr ⊢
    have lF : F1.length ≤ 10 := bGood_len pr g
    have lW : (x :: W).length ≤ 19 := by
      have : bMu (F1, x :: W) = 2 * (10 - F1.length) + (x :: W).length := rfl
      omega
    have lW2 : W.length ≤ 19 := by
      rw [List.length_cons] at lW
      omega
    have ecut : cutL (x :: W) (some ((1 : Nat) : Int)) none = W := cut_from (by rw [List.length_cons]; omega)
    refine ⟨⟨[vl (l : Txt), vl ([c] : Txt), vl (F1 ++ fr : Txt), vl (W ++ fr : Txt), vl (fr : Txt), .no], ?_, ⟨.inl rfl, .inl rfl, .inl rfl, .inl rfl, .inr rfl, .inl rfl, trivial⟩⟩, ⟨⟨g2, by omega⟩, ?_⟩, mu2⟩
    · refine g_cons (g1_asg (a := (fr : Txt)) (js := [4]) (sl1 := St (F1, x :: W)) (sl2 := [vl (l : Txt), vl ([c] : Txt), vl (F1 : Txt), vl (x :: W : Txt), vl (fr : Txt), .no]) ?_ (tg_name fm 4 rfl (fun _ => .inl rfl) (fun _ => .inr rfl))) (g_one (g1_asg (a := ((F1 ++ fr, W ++ fr) : Txt × Txt)) (js := [2] ++ [3]) (sl1 := [vl (l : Txt), vl ([c] : Txt), vl (F1 : Txt), vl (x :: W : Txt), vl (fr : Txt), .no]) (x_pair (a_v (x_addS fm (x_var fm 2 rfl (fun _ => .inr (.inl rfl)) rfl) (x_var fm 4 rfl (fun _ => .inl rfl) rfl) (by omega)) (a_v (E.is (a := cutL (x :: W) (some ((1 : Nat) : Int)) none ++ fr) (x_addS fm (x_slS (l := x :: W) (x_var fm 3 rfl (fun _ => .inl rfl) rfl) (o_some (x_int fm)) o_none (by omega)) (x_var fm 4 rfl (fun _ => .inl rfl) rfl) (by rw [ecut]; omega)) (by rw [ecut])) a_nil))) (tg_pair fm (tg_name fm 2 rfl (fun _ => .inr rfl) (fun _ => .inl rfl)) (tg_name fm 3 rfl (fun _ => .inl rfl) (fun _ => .inr rfl)))))
      rw [efr]
      refine x_join0 fm (x_str fm []) (EN.val fm (x_lcN (y := "mate") 5 fm (xs := sgs M) (fun t : Txt => !decide (t.headD 0 ∈ F1)) id (src_txt (l := M) ?_) (fun _ => blkOk_by (N := nsBunW) (sc := defScope sBunW) (by decide +kernel)) rfl (fun _ => .inl rfl) (fun _ => .inr rfl) rfl (by rw [sgs_len]; omega) (fun y hy => ⟨?_, fun _ => ?_⟩))) ?_
      · rw [← em2]
        exact x_call fm Fm (l, x, iAt l x, jAt l x) (a_v (x_var fm 0 rfl (fun _ => .inl rfl) rfl) (a_v (x_ixS (l := x :: W) (i := 0) (c := x) (x_var fm 3 rfl (fun _ => .inl rfl) rfl) (x_int fm) (L2.atI_nat (xs := x :: W) (j := 0) (v := x) rfl) (by omega)) a_nil)) ⟨by show l.length < 60; omega, ho⟩ ⟨rfl, rfl, trivial⟩ rfl (Nat.le_refl 3) (fun _ => rfl)
      · obtain ⟨d, _, rfl⟩ := sgs_mem.1 hy
        exact ti_one (t_notInS (fm.blk _) (x_var (fm.blk _) 5 rfl (fun _ => .inl rfl) rfl) (x_var (fm.blk _) 2 rfl (fun _ => .inr (.inl rfl)) rfl))
      · exact x_var (fm.blk _) 5 rfl (fun _ => .inl rfl) rfl
      · rw [List.map_id, sgs_filter, sgs_sum]
        have y := List.length_filter_le (fun e => !decide (([e] : Txt).headD 0 ∈ F1)) M
        omega
    · cases n with
      | zero =>
        have : (F1, x :: W) = tE := hn
        rw [← this] at e0
        cases e0
      | succ n =>
        have e : bRun l (n + 1) (F1, x :: W) = bRun l n (bStep l (F1, x :: W)) := if_neg (by simp)
        rw [e, est, hfr] at hn
        exact ⟨n, hn⟩
  · obtain ⟨g, n, hn⟩ := iv
    have h0 : t.2 = [] := by simpa using ht
    cases n with
    | zero => exact hn
    | succ n =>
      have : bRun l (n + 1) t = t := if_pos h0
      rw [this] at hn
      exact hn
  · have up := ups_self gE.nodup
    have lu := up.length_eq
    rw [eC] at up lu
    rw [← sgs_flat (compV l c)]
    refine x_join0 fm (x_str fm []) (EN.val fm (x_sortedC (l := tE.1) (u := compV l c) fm (x_var fm 2 rfl (fun _ => .inr (.inl rfl)) rfl) up ((comp_up l c).imp fun h => Nat.le_of_lt h) (by omega) (fun _ => rfl) m.sorted)) ?_
    rw [sgs_sum]
    omega
abbrev sBunOf : Stmt := topS 23
noncomputable def prBunOf : Pr := { A := Txt, ins := fun l => [vl l], pre := fun l => ∃ ls, Proper l ls, res := fun l => rn (bunchesV l), outs := fun _ => [] }
theorem scBunOf : FnScope ["row", "letter"] ["row"] (defScope sBunOf) := ⟨rfl, rfl, rfl, by decide +kernel, rfl, by decide +kernel, by decide +kernel⟩
theorem ok_bunof {P : Program} {w : World} {K : PySem.W.Frag} {mg : Str → Option Value} {base : Heap} {f : Addr} {fd : FuncData} (F : Fun K "bunches_of" "bunches_of" sBunOf f fd) (Fl : Fnc P w K mg base 1 "letters_in" ["row"] prLin) (Fb : Fnc P w K mg base 4 "bunch_with" ["row", "letter"] prBunW) (m : Bare mg) : FnG P w K mg base CX0 5 f fd ["row"] prBunOf.sp := by
  refine fn_ok F scBunOf (fun _ => rfl) (fun _ => rfl) fun cdv A outer s0 H Ee fm (l : Txt) hpre => ?_
  obtain ⟨ls, pr⟩ := hpre
  have hlen := pr.len
  have h2 := pr.2.2.1
  have lu := ups_len l
  obtain ⟨b1, b2, b3⟩ := bunches_spec l
  refine ⟨[vl (l : Txt), .no], fun pc hpc => by simp [prBunOf] at hpc, ?_⟩
  refine .new (g_end (g1_retN (x_upsT (ls := (sgs (ups l)).map fun t => compV l (t.headD 0)) (ks := bunchesV l) fm (EN.val fm (x_lcNM (y := "letter") 1 fm (xs := sgs (ups l)) (fun t : Txt => (compV l (t.headD 0) : Txt)) (src_txt (l := ups l) ?_) (fun _ => blkOk_by (N := ["row", "letter"]) (sc := defScope sBunOf) (by decide +kernel)) rfl (fun _ => .inl rfl) (fun _ => .inr rfl) rfl (by rw [sgs_len]; omega) (fun t ht => ?_))) b1 (fun t => ?_) b3 (by rw [List.length_map, sgs_len]; omega) (fun _ => rfl) m.sorted (fun _ => rfl) m.set)))
  · exact x_call fm Fl l (a_v (x_var fm 0 rfl (fun _ => .inr (.inl rfl)) rfl) a_nil) (by show l.length < 60; omega) ⟨rfl, trivial⟩ rfl (Nat.le_of_ble_eq_true rfl) (fun _ => rfl)
  · obtain ⟨c, hc, rfl⟩ := sgs_mem.1 ht
    exact x_call (fm.blk _) Fb (l, c) (a_v (x_var (fm.blk _) 0 rfl (fun _ => .inr (.inl rfl)) rfl) (a_v (x_var (fm.blk _) 1 rfl (fun _ => .inl rfl) rfl) a_nil)) ⟨⟨ls, pr⟩, ups_mem.1 hc⟩ ⟨rfl, rfl, trivial⟩ rfl (Nat.le_refl 4) (fun _ => rfl)
  · rw [b2, List.mem_map]
    constructor
    · rintro ⟨c, hc, rfl⟩
      exact ⟨[c], sgs_mem.2 ⟨c, ups_mem.2 hc, rfl⟩, rfl⟩
    · rintro ⟨t, ht, rfl⟩
      obtain ⟨c, hc, rfl⟩ := sgs_mem.1 ht
      exact ⟨c, ups_mem.1 hc, rfl⟩
abbrev sBun : Stmt := topS 24
noncomputable def prBun : Pr := { A := Txt, ins := fun l => [vl l], pre := fun l => ∃ ls, Proper l ls, res := fun l => rv (Tup.mk (bunchesV l)), outs := fun _ => [] }
theorem scBun : FnScope ["row"] ["row"] (defScope sBun) := ⟨rfl, rfl, rfl, by decide +kernel, rfl, by decide +kernel, by decide +kernel⟩
theorem ok_bun {P : Program} {w : World} {K : PySem.W.Frag} {mg : Str → Option Value} {base : Heap} {f : Addr} {fd : FuncData} (F : Fun K "bunches" "bunches" sBun f fd) (Fc : Fnc P w K mg base 3 "check_row" ["value"] prCkRow) (Fb : Fnc P w K mg base 5 "bunches_of" ["row"] prBunOf) (m : mg "tuple" = none) : FnG P w K mg base CX0 6 f fd ["row"] prBun.sp := by
  refine fn_ok F scBun (fun _ => rfl) (fun _ => rfl) fun cdv A outer s0 H Ee fm (l : Txt) hpre => ?_
  have pr0 := hpre
  obtain ⟨ls, pr⟩ := hpre
  have hlen := pr.len
  have h2 := pr.2.2.1
  refine ⟨[vl (l : Txt)], fun pc hpc => by simp [prBun] at hpc, ?_⟩
  exact .ret (g_cons (g1_expr (a := ()) (x_call fm Fc l (a_v (x_var fm 0 rfl (fun _ => .inl rfl) rfl) a_nil) ⟨by show l.length < 60; omega, pr.row⟩ ⟨rfl, trivial⟩ rfl (Nat.le_of_ble_eq_true rfl) (fun _ => rfl))) (g_end (g1_ret (x_tupL (xs := bunchesV l) fm (EN.val fm (x_callN fm Fb l (a_v (x_var fm 0 rfl (fun _ => .inl rfl) rfl) a_nil) pr0 ⟨rfl, trivial⟩ rfl (Nat.le_refl 5) (fun _ => rfl))) (fun _ => rfl) m))))
end Law

namespace Law
open PySem L2 Wk
/-! ### _law_bunches -/
def lotK (u : Txt) (f : Nat → Nat) : List (Key × V) := u.map fun c => ((Sum.inr (tx [c]) : Key), V.str (tx [f c]))
def updF (f : Nat → Nat) (c v : Nat) : Nat → Nat := fun x => if x = c then v else f x
theorem key_inj {c d : Nat} (h : (Sum.inr (tx [c]) : Key) = Sum.inr (tx [d])) : c = d := by
  have y := tx_inj (Sum.inr.inj h)
  injection y
theorem lotK_val {f : Nat → Nat} {c : Nat} : ∀ {u : Txt}, c ∈ u → valV (lotK u f) (Sum.inr (tx [c])) = some (V.str (tx [f c]))
  | [], h => by cases h
  | d :: u, h => by
    by_cases e : d = c
    · subst e
      exact valV_pos (p := ((Sum.inr (tx [d]) : Key), V.str (tx [f d]))) rfl
    · have h2 : c ∈ u := (List.mem_cons.mp h).resolve_left fun q => e q.symm
      exact (valV_neg (p := ((Sum.inr (tx [d]) : Key), V.str (tx [f d]))) (fun q => e (key_inj q))).trans (lotK_val h2)
theorem lotK_keys (u : Txt) (f : Nat → Nat) : ((sgs u).map fun t => (Sum.inr (tx t) : Key)) = (lotK u f).map (·.1) := by
  unfold sgs lotK
  rw [List.map_map, List.map_map]
  rfl
theorem lotK_put {u : Txt} {f : Nat → Nat} {c v : Nat} (h : c ∈ u) : L2.putK (lotK u f) (Sum.inr (tx [c])) (V.str (tx [v])) = lotK u (updF f c v) := by
  unfold L2.putK
  rw [if_pos ((putK_any _ _).2 (by rw [← lotK_keys]; exact List.mem_map.mpr ⟨[c], sgs_mem.2 ⟨c, h, rfl⟩, rfl⟩))]
  unfold lotK
  rw [List.map_map]
  refine List.map_congr_left fun d _ => ?_
  show (if (Sum.inr (tx [d]) : Key) = Sum.inr (tx [c]) then ((Sum.inr (tx [d]) : Key), V.str (tx [v])) else ((Sum.inr (tx [d]) : Key), V.str (tx [f d]))) = ((Sum.inr (tx [d]) : Key), V.str (tx [updF f c v d]))
  unfold updF
  by_cases e : d = c
  · rw [if_pos (by rw [e]), if_pos e]
  · rw [if_neg fun q => e (key_inj q), if_neg e]
theorem lotK_congr {u : Txt} {f g : Nat → Nat} (h : ∀ c ∈ u, f c = g c) : lotK u f = lotK u g := by
  unfold lotK
  exact List.map_congr_left fun c hc => by rw [h c hc]
theorem mergeK_new : ∀ (more acc : List (Key × V)), ((acc ++ more).map (·.1)).Nodup → mergeK acc more = acc ++ more
  | [], acc, _ => by rw [List.append_nil]; rfl
  | p :: more, acc, h => by
    have e : L2.putK acc p.1 p.2 = acc ++ [p] := by
      unfold L2.putK
      rw [if_neg fun y => ?_]
      have y2 := (putK_any _ _).1 y
      rw [List.map_append, List.nodup_append] at h
      exact h.2.2 _ y2 p.1 (by simp) rfl
    show mergeK (L2.putK acc p.1 p.2) more = _
    rw [e, mergeK_new more (acc ++ [p]) (by simpa using h)]
    simp
theorem lotK_new {u : Txt} (h : u.Nodup) : mergeK [] (kvOf ((sgs u).map fun t : Txt => (t, t))) = lotK u id := by
  have e : kvOf ((sgs u).map fun t : Txt => (t, t)) = lotK u id := by
    unfold kvOf sgs lotK
    rw [List.map_map, List.map_map]
    rfl
  rw [e, mergeK_new _ [] ?_]
  · rfl
  · rw [List.nil_append, ← lotK_keys]
    refine nodup_mapT (nodup_mapT h fun a _ b _ q => by injection q) fun a _ b _ q => tx_inj (Sum.inr.inj q)
theorem updF_fold {g : Nat → Nat} : ∀ {u : Txt} (f : Nat → Nat), u.Nodup → ∀ x, (u.foldl (fun f c => updF f c (g (f c))) f) x = if x ∈ u then g (f x) else f x
  | [], f, _, x => rfl
  | c :: u, f, h, x => by
    obtain ⟨h1, h2⟩ := List.nodup_cons.mp h
    rw [List.foldl_cons, updF_fold (updF f c (g (f c))) h2 x]
    unfold updF
    by_cases hx : x ∈ u
    · have : x ≠ c := fun q => h1 (q ▸ hx)
      rw [if_pos hx, if_neg this, if_pos (List.mem_cons_of_mem _ hx)]
    · rw [if_neg hx]
      by_cases e : x = c
      · rw [if_pos e, if_pos (List.mem_cons.mpr (.inl e)), e]
      · rw [if_neg e, if_neg fun y => (List.mem_cons.mp y).elim e hx]
def stepU (lo hi : Nat) (f : Nat → Nat) (t : Txt) : Nat → Nat := updF f (t.headD 0) (mrg lo hi (f (t.headD 0)))
theorem stepU_fold {u : Txt} {lo hi : Nat} {f : Nat → Nat} (h : u.Nodup) : lotK u ((sgs u).foldl (stepU lo hi) f) = lotK u fun x => mrg lo hi (f x) := by
  refine lotK_congr fun c hc => ?_
  have e : (sgs u).foldl (stepU lo hi) f = u.foldl (fun f c => updF f c (mrg lo hi (f c))) f := by
    unfold sgs
    rw [List.foldl_map]
    rfl
  rw [e, updF_fold (g := mrg lo hi) f h c, if_pos hc]
theorem asc_one {a b : Nat} : ¬ ([b] : Txt) < [a] ↔ a ≤ b := by
  rw [List.cons_lt_cons_iff]
  constructor
  · intro h
    by_cases y : b < a
    · exact absurd (.inl y) h
    · omega
  · rintro h (y | ⟨_, y⟩)
    · omega
    · exact absurd y (List.not_lt_nil _)
theorem sgs_asc {u : Txt} (h : u.Pairwise (· < ·)) : (sgs u).Pairwise fun a b => ¬ b < a :=
  List.pairwise_map.mpr (h.imp fun {a b} y => asc_one.2 (Nat.le_of_lt y))
abbrev sLBun : Stmt := topS 42
abbrev nsLBun : List Str := ["row", "lots", "pair", "low", "high", "sign", "found", "own", "lot"]
noncomputable def prLBun : Pr := { A := Txt, ins := fun l => [vl l], pre := fun l => ∃ ls, Proper l ls, res := fun l => rv (Tup.mk (bunchesV l)), outs := fun _ => [] }
theorem scLBun : FnScope nsLBun ["row"] (defScope sLBun) := ⟨rfl, rfl, rfl, by decide +kernel, rfl, by decide +kernel, by decide +kernel⟩
theorem ok_lbun {P : Program} {w : World} {K : PySem.W.Frag} {mg : Str → Option Value} {base : Heap} {f : Addr} {fd : FuncData} (F : Fun K "_law_bunches" "_law_bunches" sLBun f fd) (Fl : Fnc P w K mg base 1 "_law_letters" ["row"] prLl) (Fp : Fnc P w K mg base 2 "_law_pairs" ["row"] prLp) (m : Bare mg) (mt : mg "tuple" = none) : FnG P w K mg base CX0 3 f fd ["row"] prLBun.sp := by
  refine fn_ok F scLBun (fun _ => rfl) (fun _ => rfl) fun cdv A outer s0 H Ee fm (l : Txt) hpre => ?_
  obtain ⟨ls, pr⟩ := hpre
  have hlen := pr.len
  have h2 := pr.2.2.1
  have hul := ups_len l
  have perm := lots_perm l
  have blen := bunches_len l
  have basc := (bunches_spec l).2.2
  have eV : lotsV l = ((sgs (ups l)).map fun t => (lotV l (t.headD 0) : Txt)).filter fun t => !decide (t = []) := by
    unfold lotsV sgs
    rw [List.map_map]
    rfl
  have hlps : ∀ p ∈ lpsV l, ∃ a b, p = [a, b] ∧ a ∈ ups l ∧ b ∈ ups l := fun p hp => by
    obtain ⟨a, b, e, k⟩ := lps_lk l p hp
    exact ⟨a, b, e, ups_mem.2 k.1, ups_mem.2 k.2.1⟩
  have un := ups_nodup l
  have ua := sgs_asc (ups_up l)
  obtain ⟨g, hg⟩ : ∃ g : Nat → Nat, lotF l = g := ⟨_, rfl⟩
  have hfold : (lpsV l).foldl mergeF id = g := hg
  have lotE : ∀ own, lotV l own = (((sgs (ups l)).filter fun t => decide (([g (t.headD 0)] : Txt) = [own])).map id).flatten := fun own => by
    rw [List.map_id, sgs_filter, sgs_flat, ← hg]
    unfold lotV
    refine List.filter_congr fun x _ => decide_eq_decide.mpr ?_
    show _ ↔ ([lotF l x] : Txt) = [own]
    simp
  obtain ⟨lv, hlv⟩ : ∃ lv : Nat → Txt, lotV l = lv := ⟨_, rfl⟩
  rw [hlv] at eV lotE
  obtain ⟨u, hu⟩ : ∃ u : Txt, ups l = u := ⟨_, rfl⟩
  obtain ⟨ps, hps⟩ : ∃ ps : List Txt, lpsV l = ps := ⟨_, rfl⟩
  obtain ⟨bs, hbs⟩ : ∃ bs : List Txt, bunchesV l = bs := ⟨_, rfl⟩
  rw [hu] at hul eV hlps un ua lotE blen
  rw [hps] at hlps hfold
  rw [hbs] at perm blen basc
  have rL : prLl.res l = rn (sgs u) := by rw [← hu]; rfl
  have rP : prLp.res l = rn ps := by rw [← hps]; rfl
  have rB : prLBun.res l = rv (Tup.mk bs) := by rw [← hbs]; rfl
  show ∃ se, _ ∧ BodyOk _ _ _ (prLBun.res l) _
  rw [rB]
  let St : (Nat → Nat) → List Wk.Slot := fun f => [vl (l : Txt), .own (cdk (lotK u f)), .no, .no, .no, .no, .no, .no, .no]
  let S2 : Txt → Nat → Nat → (Nat → Nat) → List Wk.Slot := fun p lo hi f => [vl (l : Txt), .own (cdk (lotK u f)), vl (p : Txt), vl ([lo] : Txt), vl ([hi] : Txt), .no, .no, .no, .no]
  let S3 : List Wk.Slot := [vl (l : Txt), .own (cdk (lotK u g)), .no, .no, .no, .no, vl ((sgs u).map fun t => (lv (t.headD 0) : Txt)), .no, .no]
  refine ⟨S3, fun pc hpc => by simp [prLBun] at hpc, ?_⟩
  refine .ret (g_cons (g1_own (c := cdk (lotK u id)) (sl1 := [vl (l : Txt), .no, .no, .no, .no, .no, .no, .no, .no]) fm 1 ?_ rfl (fun _ => .inr rfl) (fun _ => .inl rfl)) (g_cons
    (g1_forN fm St id g (fun x t => (St t).set 2 (vl x)) mergeF (fun i f => True) (src_list (xs := ps) fm (EN.val fm ?_)) (Wks.refl _) trivial hfold (fun x t => tg_name fm 2 rfl (fun _ => .inl rfl) (fun _ => .inr rfl)) (fun i f p hp inv => ?_))
    (g_cons (g1_lcN (y := "own") (sl1 := St g) 6 7 fm (xs := sgs u) (fun _ => true) (fun t : Txt => (lv (t.headD 0) : Txt)) rfl (fun _ => rfl) (src_list (xs := sgs u) fm (EN.val fm ?_)) (fun _ => blkOk_by (N := nsLBun) (sc := defScope sLBun) (by decide +kernel)) rfl (fun _ => .inr rfl) (fun _ => .inl rfl) rfl (by rw [sgs_len]; omega) (fun t ht => ⟨ti_nil, fun _ => ?_⟩))
    (g_frz 6 (xs := ((sgs u).filter fun _ => true).map fun t => (lv (t.headD 0) : Txt)) rfl ?_))))
  · rw [← lotK_new un]
    exact x_dictP (xs := (sgs u).map fun t : Txt => (t, t)) fm (EN.val fm (x_lcNM (y := "sign") 5 fm (xs := sgs u) (fun t : Txt => (t, t)) (src_list (xs := sgs u) fm (EN.val fm (x_callN fm Fl l (a_v (x_var fm 0 rfl (fun _ => .inl rfl) rfl) a_nil) (by show l.length < 60; omega) ⟨rfl, trivial⟩ rL (Nat.le_of_ble_eq_true rfl) (fun _ => rfl)))) (fun _ => blkOk_by (N := nsLBun) (sc := defScope sLBun) (by decide +kernel)) rfl (fun _ => .inl rfl) (fun _ => .inr rfl) rfl (by rw [sgs_len]; omega) (fun t ht => x_pair (a_v (x_var (fm.blk _) 5 rfl (fun _ => .inl rfl) rfl) (a_v (x_var (fm.blk _) 5 rfl (fun _ => .inl rfl) rfl) a_nil))))) (fun _ => rfl) m.dict
  · exact x_callN fm Fp l (a_v (x_var fm 0 rfl (fun _ => .inl rfl) rfl) a_nil) (by show l.length < 60; omega) ⟨rfl, trivial⟩ rP (Nat.le_of_ble_eq_true rfl) (fun _ => rfl)
  · obtain ⟨a, b, rfl, ha, hb⟩ := hlps p (List.mem_of_getElem? hp)
    have em : mergeF f [a, b] = fun x => mrg (min (f a) (f b)) (max (f a) (f b)) (f x) := rfl
    obtain ⟨lo, hlo⟩ : ∃ lo, min (f a) (f b) = lo := ⟨_, rfl⟩
    obtain ⟨hi, hhi⟩ : ∃ hi, max (f a) (f b) = hi := ⟨_, rfl⟩
    rw [hlo, hhi] at em
    have pm : ([[lo], [hi]] : List Txt).Perm [[f a], [f b]] := by
      rcases Nat.le_total (f a) (f b) with y | y
      · rw [← hlo, ← hhi, Nat.min_eq_left y, Nat.max_eq_right y]
      · rw [← hlo, ← hhi, Nat.min_eq_right y, Nat.max_eq_left y]
        exact List.Perm.swap ..
    have pa : ([[lo], [hi]] : List Txt).Pairwise fun a b => ¬ b < a := by
      have y : lo ≤ hi := by omega
      exact List.pairwise_cons.mpr ⟨fun z hz => by rw [List.mem_singleton.mp hz]; exact asc_one.2 y, List.pairwise_singleton ..⟩
    obtain ⟨fE, hfE⟩ : ∃ fE, (sgs u).foldl (stepU lo hi) f = fE := ⟨_, rfl⟩
    have eK : lotK u (mergeF f [a, b]) = lotK u fE := by
      rw [em, ← hfE]
      exact (stepU_fold un).symm
    refine ⟨⟨S2 [a, b] lo hi fE, .inl (g_cons (g1_asg (a := ([[lo], [hi]] : List Txt)) (js := [3] ++ [4]) (sl1 := [vl (l : Txt), .own (cdk (lotK u f)), vl ([a, b] : Txt), .no, .no, .no, .no, .no, .no]) (EN.val fm (x_sortedT (ls := [[f a], [f b]]) fm (EN.val fm (x_list (xs := ([[f a], [f b]] : List Txt)) (a_v (a := ([f a] : Txt)) (sl1 := [vl (l : Txt), .own (cdk (lotK u f)), vl ([a, b] : Txt), .no, .no, .no, .no, .no, .no]) ?_ (a_v (a := ([f b] : Txt)) ?_ a_nil)) (by show 2 ≤ 16777216; decide))) pm pa (by show 2 < 64; decide) (fun _ => rfl) m.sorted)) (tg_lst2 fm (tg_name fm 3 rfl (fun _ => .inl rfl) (fun _ => .inr rfl)) (tg_name fm 4 rfl (fun _ => .inl rfl) (fun _ => .inr rfl)))) (g_one (g1_forN fm (S2 [a, b] lo hi) f fE (fun x t => (S2 [a, b] lo hi t).set 5 (vl x)) (stepU lo hi) (fun i f => True) (src_list (xs := sgs u) fm (EN.val fm (x_sortedDS (kvs := lotK u f) (ks := sgs u) fm 1 rfl (fun _ => .inr (.inl rfl)) (.inl rfl) (by rw [lotK_keys]) ua (by rw [sgs_len]; omega) (fun _ => rfl) m.sorted))) (Wks.refl _) trivial hfE (fun x t => tg_name fm 5 rfl (fun _ => .inl rfl) (fun _ => .inr rfl)) (fun i f t ht inv => ?_)))), ?_⟩, trivial⟩
    · exact x_dget (k := [a]) fm 1 rfl (fun _ => .inr (.inl rfl)) (x_ixS (l := [a, b]) (i := 0) (c := a) (x_var fm 2 rfl (fun _ => .inl rfl) rfl) (x_int fm) rfl (by show 2 ≤ 16777216; decide)) (.inl rfl) (.inl rfl) (lotK_val ha) (fun _ => rfl)
    · exact x_dget (k := [b]) fm 1 rfl (fun _ => .inr (.inl rfl)) (x_ixS (l := [a, b]) (i := 1) (c := b) (x_var fm 2 rfl (fun _ => .inl rfl) rfl) (x_int fm) rfl (by show 2 ≤ 16777216; decide)) (.inl rfl) (.inl rfl) (lotK_val hb) (fun _ => rfl)
    · obtain ⟨c, hc, rfl⟩ := sgs_mem.1 (List.mem_of_getElem? ht)
      have hcu := hc
      have e4 : L2.putK (lotK u f) (Sum.inr (tx [c])) (V.str (tx [mrg lo hi (f c)])) = lotK u (stepU lo hi f [c]) := lotK_put hc
      refine ⟨⟨(S2 [a, b] lo hi (stepU lo hi f [c])).set 5 (vl ([c] : Txt)), .inl ?_, ?_⟩, trivial⟩
      · show G _ _ _ (.next [vl (l : Txt), .own (cdk (lotK u (stepU lo hi f [c]))), vl ([a, b] : Txt), vl ([lo] : Txt), vl ([hi] : Txt), vl ([c] : Txt), .no, .no, .no])
        rw [← e4]
        refine g_one (g1_dput (sl := (S2 [a, b] lo hi f).set 5 (vl ([c] : Txt))) (sl1 := (S2 [a, b] lo hi f).set 5 (vl ([c] : Txt))) (k := ([c] : Txt)) (c := ([mrg lo hi (f c)] : Txt)) (kvs := lotK u f) fm 1 rfl (fun _ => .inr (.inl rfl)) (x_if (c := decide (([f c] : Txt) = [hi])) (sl1 := (S2 [a, b] lo hi f).set 5 (vl ([c] : Txt))) (t_eqS (i := [f c]) (j := [hi]) fm (x_dget (k := [c]) fm 1 rfl (fun _ => .inr (.inl rfl)) (x_var fm 5 rfl (fun _ => .inl rfl) rfl) (.inl rfl) (.inl rfl) (lotK_val hc) (fun _ => rfl)) (x_var fm 4 rfl (fun _ => .inl rfl) rfl)) (fun h => ?_) (fun h => ?_)) (x_var (a := ([c] : Txt)) fm 5 rfl (fun _ => .inl rfl) rfl) (.inl rfl) (.inl rfl) ?_)
        · have e5 : f c = hi := by
            have y := of_decide_eq_true h
            injection y
          have e6 : mrg lo hi (f c) = lo := if_pos e5
          rw [e6]
          exact x_var fm 3 rfl (fun _ => .inl rfl) rfl
        · have e5 : ¬ f c = hi := fun q => of_decide_eq_false h (by rw [q])
          have e6 : mrg lo hi (f c) = f c := if_neg e5
          rw [e6]
          exact x_dget (k := [c]) fm 1 rfl (fun _ => .inr (.inl rfl)) (x_var fm 5 rfl (fun _ => .inl rfl) rfl) (.inl rfl) (.inl rfl) (lotK_val hc) (fun _ => rfl)
        · have : (lotK u f).length = u.length := List.length_map _
          omega
      · exact ⟨.inl rfl, .inl rfl, .inl rfl, .inl rfl, .inl rfl, .inr rfl, .inl rfl, .inl rfl, .inl rfl, trivial⟩
    · show Wks _ [vl (l : Txt), .own (cdk (lotK u (mergeF f [a, b]))), .no, .no, .no, .no, .no, .no, .no]
      rw [eK]
      exact ⟨.inl rfl, .inl rfl, .inr rfl, .inr rfl, .inr rfl, .inl rfl, .inl rfl, .inl rfl, .inl rfl, trivial⟩
  · exact x_callN fm Fl l (a_v (x_var fm 0 rfl (fun _ => .inl rfl) rfl) a_nil) (by show l.length < 60; omega) ⟨rfl, trivial⟩ rL (Nat.le_of_ble_eq_true rfl) (fun _ => rfl)
  · obtain ⟨own, ho, rfl⟩ := sgs_mem.1 ht
    have e := lotE own
    show E _ _ _ _ (lv own)
    rw [e]
    refine x_join0 (fm.blk _) (x_str (fm.blk _) []) (EN.val (fm.blk _) (x_lcN (y := "sign") 5 (fm.blk _) (xs := sgs u) (fun t : Txt => decide (([g (t.headD 0)] : Txt) = [own])) id (src_list (xs := sgs u) (fm.blk _) (EN.val (fm.blk _) (x_sortedDS (kvs := lotK u g) (ks := sgs u) (fm.blk _) 1 rfl (fun _ => .inr (.inl rfl)) (.inl rfl) (by rw [lotK_keys]) ua (by rw [sgs_len]; omega) (fun _ => rfl) m.sorted))) (fun _ => blkOk_by (N := nsLBun) (sc := { kind := .function, names := [(".0", .local), ("own", .cell), ("sorted", .globalImplicit), ("lots", .cell)], isGenerator := false, isCoroutine := false }) (by decide +kernel)) rfl (fun _ => .inl rfl) (fun _ => .inr rfl) rfl (by rw [sgs_len]; omega) (fun y hy => ⟨?_, fun _ => ?_⟩))) ?_
    · obtain ⟨d, hd, rfl⟩ := sgs_mem.1 hy
      exact ti_one (t_eqS (i := [g d]) (j := [own]) ((fm.blk _).blk _) (x_dget (k := [d]) ((fm.blk _).blk _) 1 rfl (fun _ => .inr (.inl rfl)) (x_var ((fm.blk _).blk _) 5 rfl (fun _ => .inl rfl) rfl) (.inl rfl) (.inl rfl) (lotK_val hd) (fun _ => rfl)) (x_var ((fm.blk _).blk _) 7 rfl (fun _ => .inr (.inl rfl)) rfl))
    · exact x_var ((fm.blk _).blk _) 5 rfl (fun _ => .inl rfl) rfl
    · rw [List.map_id, sgs_filter, sgs_sum]
      have y := List.length_filter_le (fun c => decide (([g (([c] : Txt).headD 0)] : Txt) = [own])) u
      omega
  · have e1 : ((sgs u).filter fun _ => true).map (fun t => (lv (t.headD 0) : Txt)) = (sgs u).map fun t => (lv (t.headD 0) : Txt) := by
      rw [List.filter_eq_self.mpr fun _ _ => rfl]
    rw [e1]
    obtain ⟨fo, hfo⟩ : ∃ fo : List Txt, ((sgs u).map fun t => (lv (t.headD 0) : Txt)) = fo := ⟨_, rfl⟩
    have lfo : fo.length = u.length := by rw [← hfo, List.length_map, sgs_len]
    have eV2 : lotsV l = (fo.filter fun t => !decide (t = [])).map id := by rw [eV, hfo, List.map_id]
    have lV : (lotsV l).length ≤ fo.length := by
      rw [eV2, List.map_id]
      exact List.length_filter_le _ _
    rw [eV2] at perm lV
    show G _ _ [vl (l : Txt), .own (cdk (lotK u g)), .no, .no, .no, .no, vl ((sgs u).map fun t => (lv (t.headD 0) : Txt)), .no, .no] (.ret _ [vl (l : Txt), .own (cdk (lotK u g)), .no, .no, .no, .no, vl ((sgs u).map fun t => (lv (t.headD 0) : Txt)), .no, .no])
    rw [hfo]
    refine g_end (g1_ret (x_tupL (xs := bs) fm (EN.val fm (x_sortedT (ls := (fo.filter fun t => !decide (t = [])).map id) (ks := bs) fm (EN.val fm (x_lcN (y := "lot") 8 fm (xs := fo) (fun t : Txt => !decide (t = [])) id (src_list (xs := fo) fm (x_var fm 6 rfl (fun _ => .inl rfl) rfl)) (fun _ => blkOk_by (N := nsLBun) (sc := defScope sLBun) (by decide +kernel)) rfl (fun _ => .inl rfl) (fun _ => .inr rfl) rfl (by omega) (fun y hy => ⟨?_, fun _ => ?_⟩))) perm basc (by omega) (fun _ => rfl) m.sorted)) (fun _ => rfl) mt))
    · exact ti_one (t_neS (fm.blk _) (x_var (fm.blk _) 8 rfl (fun _ => .inl rfl) rfl) (x_str (fm.blk _) []))
    · exact x_var (fm.blk _) 8 rfl (fun _ => .inl rfl) rfl
end Law

namespace Law
open PySem L2 Wk
/-! ### _law_right -/
abbrev sRight : Stmt := topS 43
abbrev nsRight : List Str := ["jar", "turn", "row", "due", "pair", "other", "whole", "told", "lot"]
theorem scRight : FnScope nsRight ["jar"] (defScope sRight) := ⟨rfl, rfl, rfl, by decide +kernel, rfl, by decide +kernel, by decide +kernel⟩
abbrev bRight : List Stmt := bodyOf ((defBody sRight).getD 0 (.Pass ⟨0, 0, 0, 0⟩))
structure Fns (P : Program) (w : World) (K : PySem.W.Frag) (mg : Str → Option Value) (base : Heap) : Prop where
  dip : Fnc P w K mg base 1 "_law_dip" ["jar", "many"] prDip
  row : Fnc P w K mg base 3 "_law_any_row" ["jar", "many"] prRow
  lrow : Fnc P w K mg base 5 "_law_row" ["jar", "most"] prLRow
  ll : Fnc P w K mg base 1 "_law_letters" ["row"] prLl
  lbun : Fnc P w K mg base 3 "_law_bunches" ["row"] prLBun
  bun : Fnc P w K mg base 6 "bunches" ["row"] prBun
  bunK : Fnk P w K mg base 6 "bunches" ["row"] 0 ["row"] false prBun
  links : Fnc P w K mg base 5 "links" ["row"] prLinks
  putin : Fnc P w K mg base 4 "put_in" ["row", "place", "other"] prPutIn
theorem low_sub {d t : Txt} (h : Low d) (s : ∀ c ∈ t, c ∈ d) : Low t := by
  show t.all _ = true
  rw [List.all_eq_true]
  exact fun c hc => List.all_eq_true.mp h c (s c hc)
theorem bunch_sub {l t : Txt} (h : t ∈ bunchesV l) : (∀ c ∈ t, c ∈ l) ∧ t.length ≤ l.length := by
  obtain ⟨c, hc, rfl⟩ := ((bunches_spec l).2.1 t).1 h
  refine ⟨fun x hx => (comp_mem.1 hx).1, ?_⟩
  have y1 : (compV l c).length ≤ (ups l).length := List.length_filter_le _ _
  have y2 := ups_len l
  omega
def rT (j : Jar) (x : Int) : Txt := if x = 0 then rowLV j 10 else rowV (dipJ j 10) (1 + dipV j 10)
def rTJ (j : Jar) (x : Int) : Jar := if x = 0 then rowLJ j 10 else rowJ (dipJ j 10) (1 + dipV j 10)
theorem rT_proper (j : Jar) (x : Int) : ∃ ls, Proper (rT j x) ls := by
  unfold rT
  split
  · obtain ⟨ls, pr, _⟩ := rowL_proper (j := j) (m := 10) (by decide) (by decide)
    exact ⟨ls, pr⟩
  · obtain ⟨h1, h2⟩ := dipV_lt j (m := 10) (by decide)
    obtain ⟨ls, pr, _⟩ := rowV_proper (dipJ j 10) (1 + dipV j 10) (by omega) (by omega)
    exact ⟨ls, pr⟩
abbrev bPair : List Stmt := bodyOf (bRight.getD 4 (.Pass ⟨0, 0, 0, 0⟩))
theorem pair_ok {P : Program} {w : World} {K : PySem.W.Frag} {mg : Str → Option Value} {base : Heap} {f : Addr} (fs : Fns P w K mg base) (m : Bare mg) (mr : mg "repr" = none) {cdv : Value} {A : Around} {outer : List Env} {s0 : Shared} {H : Hp} {Ee : XK}
    (fm : Fam (cX P w K mg base nsRight "_law_right" sRight f cdv A outer s0 H Ee) ⟨P, w, K, mg, base, nsRight, 6⟩) (J : Wk.Slot) (x : Int) {l : Txt} {bs : List Txt} {c d : Nat} (hb : ∀ t ∈ bs, c ∈ t ↔ d ∈ t) (hl : bs.length ≤ 20) :
    G (cX P w K mg base nsRight "_law_right" sRight f cdv A outer s0 H Ee) bPair [J, vl x, vl (l : Txt), vl (Tup.mk bs), vl ([c, d] : Txt), .no, .no, .no, .no] (.next [J, vl x, vl (l : Txt), vl (Tup.mk bs), vl ([c, d] : Txt), .no, .no, .no, .no] : Out Bool) := by
  have e : ((bs.filter fun t => !decide (decide (c ∈ t) = decide (d ∈ t))).map id) = [] := by
    rw [List.map_id, List.filter_eq_nil_iff]
    intro t ht
    have y : decide (c ∈ t) = decide (d ∈ t) := decide_eq_decide.mpr (hb t ht)
    rw [y]
    simp
  refine g_no (sl1 := [J, vl x, vl (l : Txt), vl (Tup.mk bs), vl ([c, d] : Txt), .no, .no, .no, .no]) (Wk.T.is (c := !decide ((bs.filter fun t => !decide (decide (c ∈ t) = decide (d ∈ t))).map id = ([] : List Txt))) (t_neD (a := (bs.filter fun t => !decide (decide (c ∈ t) = decide (d ∈ t))).map id) (b := ([] : List Txt)) (sl1 := [J, vl x, vl (l : Txt), vl (Tup.mk bs), vl ([c, d] : Txt), .no, .no, .no, .no]) fm (EN.val fm (x_lcN (y := "lot") 8 fm (xs := bs) (fun t : Txt => !decide (decide (c ∈ t) = decide (d ∈ t))) id (src_tup (xs := bs) fm (x_var fm 3 rfl (fun _ => .inl rfl) rfl)) (fun _ => blkOk_by (N := nsRight) (sc := defScope sRight) (by decide +kernel)) rfl (fun _ => .inl rfl) (fun _ => .inr rfl) rfl (by omega) (fun y hy => ⟨?_, fun _ => (x_var (fm.blk _) 8 rfl (fun _ => .inl rfl) rfl)⟩))) (EN.val fm (x_list (xs := ([] : List Txt)) a_nil (by decide))) (by rw [e]; exact fine_strs fun t ht => by cases ht) (fine_strs fun t ht => by cases ht)) (by rw [e]; simp)) g_nil
  have ix0 : L2.atI ([c, d] : Txt) 0 = some c := rfl
  have ix1 : L2.atI ([c, d] : Txt) 1 = some d := rfl
  exact ti_one (t_neD (a := decide (c ∈ y)) (b := decide (d ∈ y)) (fm.blk _) (x_inS (fm.blk _) (c := c) (j := y) (x_ixS (l := [c, d]) (i := 0) (c := c) (x_var (fm.blk _) 4 rfl (fun _ => .inr (.inl rfl)) rfl) (x_int (fm.blk _)) ix0 (by show 2 ≤ 16777216; decide)) (x_var (fm.blk _) 8 rfl (fun _ => .inl rfl) rfl)) (x_inS (fm.blk _) (c := d) (j := y) (x_ixS (l := [c, d]) (i := 1) (c := d) (x_var (fm.blk _) 4 rfl (fun _ => .inr (.inl rfl)) rfl) (x_int (fm.blk _)) ix1 (by show 2 ≤ 16777216; decide)) (x_var (fm.blk _) 8 rfl (fun _ => .inl rfl) rfl)) ((fin_bool _).fine (by decide)) ((fin_bool _).fine (by decide)))
abbrev bPut : List Stmt := thenOf (bRight.getD 5 (.Pass ⟨0, 0, 0, 0⟩))
theorem put_ok {P : Program} {w : World} {K : PySem.W.Frag} {mg : Str → Option Value} {base : Heap} {f : Addr} (fs : Fns P w K mg base) (m : Bare mg) (mr : mg "repr" = none) {cdv : Value} {A : Around} {outer : List Env} {s0 : Shared} {H : Hp} {Ee : XK}
    (fm : Fam (cX P w K mg base nsRight "_law_right" sRight f cdv A outer s0 H Ee) ⟨P, w, K, mg, base, nsRight, 6⟩) (p : Addr) (j : Jar) (x : Int) {l ls : Txt} {bs : List Txt} (h : Proper l ls) (hbs : bunchesV l = bs) (hl : l.length < 20) : ∃ j9 : Jar,
    ∃ s1, G (cX P w K mg base nsRight "_law_right" sRight f cdv A outer s0 H Ee) bPut [.par p (cl j.l), vl x, vl (l : Txt), vl (Tup.mk bs), .no, .no, .no, .no, .no] (.next s1 : Out Bool) ∧ Wks s1 [.par p (cl j9.l), .no, .no, .no, .no, .no, .no, .no, .no] := by
  have hlen := h.len
  have h1 := h.2.1
  have h2 := h.2.2.1
  have l60 : l.length < 60 := by omega
  let Jq (q : Jar) : Wk.Slot := .par p (cl q.l)
  have em : (10 : Int) - (l.length : Int) / 2 = 10 - (ls.length : Int) := by omega
  obtain ⟨M, hM⟩ : ∃ M : Int, (10 : Int) - (l.length : Int) / 2 = M := ⟨_, rfl⟩
  rw [hM] at em
  obtain ⟨g1, g2⟩ := dipV_lt j (m := M) (by omega)
  obtain ⟨os, pro, lo⟩ := rowV_proper (dipJ j M) (1 + dipV j M) (by omega) (by omega)
  obtain ⟨o, ho⟩ : ∃ o : Txt, rowV (dipJ j M) (1 + dipV j M) = o := ⟨_, rfl⟩
  obtain ⟨j1, hj1⟩ : ∃ j1 : Jar, rowJ (dipJ j M) (1 + dipV j M) = j1 := ⟨_, rfl⟩
  rw [ho] at pro
  have hs : ls.length + os.length ≤ 10 := by omega
  obtain ⟨d1, d2⟩ := dipV_lt j1 (m := l.length) (by omega)
  obtain ⟨n, hn⟩ := Int.eq_ofNat_of_zero_le d1
  rw [hn] at d2
  obtain ⟨j2, hj2⟩ : ∃ j2 : Jar, dipJ j1 l.length = j2 := ⟨_, rfl⟩
  have room := put_room h pro hs
  obtain ⟨k1, k2⟩ := put_many h pro hs (n := n) (by omega)
  have prw := put_proper h pro hs (n := n) (by omega)
  have hol := pro.len
  have lw := prw.len
  have lw2 := prw.2.2.1
  obtain ⟨wh, hwh⟩ : ∃ wh : Txt, putV l (n : Int) o = wh := ⟨_, rfl⟩
  rw [hwh] at k1 k2 prw lw
  obtain ⟨bw, hbw⟩ : ∃ bw : List Txt, bunchesV wh = bw := ⟨_, rfl⟩
  have fw : Fine (Tup.mk bw) := (fin_tup (n := 0) fun t ht => fin_txt (low_sub prw.low (bunch_sub (hbw ▸ ht)).1)).fine (by decide)
  obtain ⟨bo, hbo⟩ : ∃ bo : List Txt, bunchesV o = bo := ⟨_, rfl⟩
  have lb := bunches_len l
  have lul := ups_len l
  rw [hbw, hbs, hbo] at k1
  rw [hbs] at k2 lb
  rw [hbw] at k2
  refine ⟨j2, [Jq j2, vl x, vl (l : Txt), vl (Tup.mk bs), .no, vl (o : Txt), vl (wh : Txt), vl (Tup.mk bw), .no], ?_, ⟨.inl rfl, .inr rfl, .inr rfl, .inr rfl, .inl rfl, .inr rfl, .inr rfl, .inr rfl, .inl rfl, trivial⟩⟩
  -- other
  refine g_cons (g1_asg (a := (o : Txt)) (js := [5]) (sl1 := [Jq (rowJ (dipJ j M) (1 + dipV j M)), vl x, vl (l : Txt), vl (Tup.mk bs), .no, .no, .no, .no, .no]) (E.is (x_call1 (c' := cl (rowJ (dipJ j M) (1 + dipV j M)).l) fm fs.row (fun q => (q, dipJ j M, 1 + dipV j M)) (a_s fm 0 rfl (fun _ => .inl rfl) (.inr ⟨p, rfl⟩) (a_v (x_add fm (x_int fm) (x_call1 (c' := cl (dipJ j M).l) fm fs.dip (fun q => (q, j, M)) (a_s fm 0 rfl (fun _ => .inl rfl) (.inr ⟨p, rfl⟩) (a_v (E.is (x_sub fm (x_int fm) (x_fdiv fm (x_lenS (l := l) fm (x_var fm 2 rfl (fun _ => .inl rfl) rfl) (by omega) (fun _ => rfl) m.len) (x_int fm) ⟨by decide, by decide⟩)) hM) a_nil)) (fun _ => ⟨by show 0 < M; omega, by show M < 1073741824; omega⟩) rfl (.inr ⟨p, rfl⟩) (fun _ => ⟨⟨rfl, rfl, rfl⟩, rfl, trivial⟩) (fun _ => rfl) (fun _ => rfl) (Nat.le_of_ble_eq_true rfl) (fun _ => rfl))) a_nil)) (fun _ => ⟨by show 1 ≤ 1 + dipV j M; omega, by show 1 + dipV j M ≤ 10; omega⟩) rfl (.inr ⟨p, rfl⟩) (fun _ => ⟨⟨rfl, rfl, rfl⟩, rfl, trivial⟩) (fun _ => rfl) (fun _ => rfl) (Nat.le_of_ble_eq_true rfl) (fun _ => rfl)) ho) (tg_name fm 5 rfl (fun _ => .inl rfl) (fun _ => .inr rfl))) ?_
  rw [hj1]
  -- whole
  refine g_cons (g1_asg (a := (wh : Txt)) (js := [6]) (sl1 := [Jq j2, vl x, vl (l : Txt), vl (Tup.mk bs), .no, vl (o : Txt), .no, .no, .no]) (x_call (b := wh) fm fs.putin (l, (n : Int), o) (a_v (a := l) (sl1 := [Jq j1, vl x, vl (l : Txt), vl (Tup.mk bs), .no, vl (o : Txt), .no, .no, .no]) (x_var fm 2 rfl (fun _ => .inl rfl) rfl) (a_v (a := (n : Int)) (sl1 := [Jq j2, vl x, vl (l : Txt), vl (Tup.mk bs), .no, vl (o : Txt), .no, .no, .no]) ?_ (a_v (a := o) (x_var fm 5 rfl (fun _ => .inl rfl) rfl) a_nil))) ⟨⟨l60, h.row⟩, ⟨by show 0 ≤ (n : Int); omega, d2⟩, ⟨by show o.length < 60; omega, pro.row⟩, by show l.length + o.length ≤ 20; omega, room⟩ ⟨rfl, rfl, rfl, trivial⟩ (by rw [← hwh]; rfl) (Nat.le_of_ble_eq_true rfl) (fun _ => rfl)) (tg_name fm 6 rfl (fun _ => .inl rfl) (fun _ => .inr rfl))) ?_
  · have y : dipV j1 l.length = (n : Int) := hn
    rw [← y, ← hj2]
    exact (x_call1 (c' := cl (dipJ j1 (l.length : Int)).l) fm fs.dip (fun q => (q, j1, (l.length : Int))) (a_s fm 0 rfl (fun _ => .inl rfl) (.inr ⟨p, rfl⟩) (a_v (x_lenS (l := l) fm (x_var fm 2 rfl (fun _ => .inl rfl) rfl) (by omega) (fun _ => rfl) m.len) a_nil)) (fun _ => ⟨by show (0 : Int) < (l.length : Int); omega, by show (l.length : Int) < 1073741824; omega⟩) rfl (.inr ⟨p, rfl⟩) (fun _ => ⟨⟨rfl, rfl, rfl⟩, rfl, trivial⟩) (fun _ => rfl) (fun _ => rfl) (Nat.le_of_ble_eq_true rfl) (fun _ => rfl))
  -- told
  refine g_cons (g1_asg (a := Tup.mk bw) (js := [7]) (sl1 := [Jq j2, vl x, vl (l : Txt), vl (Tup.mk bs), .no, vl (o : Txt), vl (wh : Txt), .no, .no]) (x_call (b := Tup.mk bw) fm fs.bun wh (a_v (a := wh) (x_var fm 6 rfl (fun _ => .inl rfl) rfl) a_nil) ⟨_, prw⟩ ⟨rfl, trivial⟩ (by rw [← hbw]; rfl) (Nat.le_of_ble_eq_true rfl) (fun _ => rfl)) (tg_name fm 7 rfl (fun _ => .inr rfl) (fun _ => .inl rfl))) ?_
  refine g_no (sl1 := [Jq j2, vl x, vl (l : Txt), vl (Tup.mk bs), .no, vl (o : Txt), vl (wh : Txt), vl (Tup.mk bw), .no]) (Wk.T.is (c := (!decide (Tup.mk bw = Tup.mk bw)) || (!decide ((bw.length : Int) = (bs.length : Int) + (bo.length : Int)))) (Ts.t (ts_or (a := !decide (Tup.mk bw = Tup.mk bw)) (sl1 := [Jq j2, vl x, vl (l : Txt), vl (Tup.mk bs), .no, vl (o : Txt), vl (wh : Txt), vl (Tup.mk bw), .no]) (t_neD (a := Tup.mk bw) (b := Tup.mk bw) fm (x_var fm 7 rfl (fun _ => .inr (.inl rfl)) rfl) ?_ fw fw) fun _ => ts_or1 (t_neI (i := (bw.length : Int)) (j := (bs.length : Int) + (bo.length : Int)) fm (x_lenTp (xs := bw) fm (x_var fm 7 rfl (fun _ => .inr (.inl rfl)) rfl) (fun _ => rfl) m.len) (x_add fm (x_lenTp (xs := bs) fm (x_var fm 3 rfl (fun _ => .inl rfl) rfl) (fun _ => rfl) m.len) (x_lenTp (xs := bo) fm ?_ (fun _ => rfl) m.len))))) (by rw [k1]; simp)) ?_
  · exact x_call (b := Tup.mk bw) fm fs.lbun wh (a_v (a := wh) (x_var fm 6 rfl (fun _ => .inl rfl) rfl) a_nil) ⟨_, prw⟩ ⟨rfl, trivial⟩ (by rw [← hbw]; rfl) (Nat.le_of_ble_eq_true rfl) (fun _ => rfl)
  · exact x_call (b := Tup.mk bo) fm fs.lbun o (a_v (a := o) (x_var fm 5 rfl (fun _ => .inl rfl) rfl) a_nil) ⟨_, pro⟩ ⟨rfl, trivial⟩ (by rw [← hbo]; rfl) (Nat.le_of_ble_eq_true rfl) (fun _ => rfl)
  have e : ((bs.filter fun t => !decide (t ∈ bw)).map id) = [] := by
    rw [List.map_id, List.filter_eq_nil_iff]
    intro t ht
    simp [k2 t ht]
  refine g_no (sl1 := [Jq j2, vl x, vl (l : Txt), vl (Tup.mk bs), .no, vl (o : Txt), vl (wh : Txt), vl (Tup.mk bw), .no]) (Wk.T.is (c := !decide ((bs.filter fun t => !decide (t ∈ bw)).map id = ([] : List Txt))) (t_neD (a := (bs.filter fun t => !decide (t ∈ bw)).map id) (b := ([] : List Txt)) (sl1 := [Jq j2, vl x, vl (l : Txt), vl (Tup.mk bs), .no, vl (o : Txt), vl (wh : Txt), vl (Tup.mk bw), .no]) fm (EN.val fm (x_lcN (y := "lot") 8 fm (xs := bs) (fun t : Txt => !decide (t ∈ bw)) id (src_tup (xs := bs) fm (x_var fm 3 rfl (fun _ => .inl rfl) rfl)) (fun _ => blkOk_by (N := nsRight) (sc := defScope sRight) (by decide +kernel)) rfl (fun _ => .inl rfl) (fun _ => .inr rfl) rfl (by omega) (fun y hy => ⟨?_, fun _ => (x_var (fm.blk _) 8 rfl (fun _ => .inl rfl) rfl)⟩))) (EN.val fm (x_list (xs := ([] : List Txt)) a_nil (by decide))) (by rw [e]; exact fine_strs fun t ht => by cases ht) (fine_strs fun t ht => by cases ht)) (by rw [e]; simp)) g_nil
  exact ti_one (t_notInTT (fm.blk _) (x_var (fm.blk _) 8 rfl (fun _ => .inl rfl) rfl) (x_var (fm.blk _) 7 rfl (fun _ => .inr (.inl rfl)) rfl))
theorem turn_ok {P : Program} {w : World} {K : PySem.W.Frag} {mg : Str → Option Value} {base : Heap} {f : Addr} (fs : Fns P w K mg base) (m : Bare mg) (mr : mg "repr" = none) {cdv : Value} {A : Around} {outer : List Env} {s0 : Shared} {H : Hp} {Ee : XK}
    (fm : Fam (cX P w K mg base nsRight "_law_right" sRight f cdv A outer s0 H Ee) ⟨P, w, K, mg, base, nsRight, 6⟩) (p : Addr) (j : Jar) (x : Int) : ∃ j9 : Jar,
    ∃ s1, G (cX P w K mg base nsRight "_law_right" sRight f cdv A outer s0 H Ee) bRight [.par p (cl j.l), vl x, .no, .no, .no, .no, .no, .no, .no] (.next s1 : Out Bool) ∧ Wks s1 [.par p (cl j9.l), .no, .no, .no, .no, .no, .no, .no, .no] := by
  obtain ⟨ls, pr⟩ := rT_proper j x
  obtain ⟨l, hl⟩ : ∃ l : Txt, rT j x = l := ⟨_, rfl⟩
  obtain ⟨j1, hj1⟩ : ∃ j1 : Jar, rTJ j x = j1 := ⟨_, rfl⟩
  rw [hl] at pr
  have hlen := pr.len
  have h1 := pr.2.1
  have h2 := pr.2.2.1
  have l60 : l.length < 60 := by omega
  let Jq (q : Jar) : Wk.Slot := .par p (cl q.l)
  obtain ⟨bs, hbs⟩ : ∃ bs : List Txt, bunchesV l = bs := ⟨_, rfl⟩
  have lb := bunches_len l
  have lul := ups_len l
  have fl := bunches_flat l
  have lk := fun (c d : Nat) (k : Lk l c d) (t : Txt) (ht : t ∈ bunchesV l) => bunches_link k ht
  have sub := fun (t : Txt) (ht : t ∈ bunchesV l) => bunch_sub ht
  rw [hbs] at lb fl lk sub
  have fll := fl.length_eq
  have sums : (bs.map List.length).sum = bs.flatten.length := List.length_flatten.symm
  have tb : TB 1 4083 (Tup.mk bs) := (tb_tup (n := 202) (m := 20) (fun t ht => tb_txt (m := 20) (low_small (low_sub pr.low (sub t ht).1)) (by have := (sub t ht).2; omega)) (by show bs.length ≤ 20; omega)).up (by decide)
  have told : Told ([Tup.mk bs, Tup.mk bs] : List (Tup Txt)) := (tb_list (as := [Tup.mk bs, Tup.mk bs]) (n := 4083) (m := 2) (fun t ht => by
    have : t = Tup.mk bs := by simpa using ht
    rw [this]
    exact tb) (Nat.le_refl 2)).told (by decide) (by decide)
  have eP := pairs_lps pr
  obtain ⟨j9, s9, hp, wk9⟩ : ∃ j9 : Jar, ∃ s1, G (cX P w K mg base nsRight "_law_right" sRight f cdv A outer s0 H Ee) [bRight.getD 5 (.Pass ⟨0, 0, 0, 0⟩)] [Jq j1, vl x, vl (l : Txt), vl (Tup.mk bs), .no, .no, .no, .no, .no] (.next s1 : Out Bool) ∧ Wks s1 [.par p (cl j9.l), .no, .no, .no, .no, .no, .no, .no, .no] := by
    by_cases hl20 : l.length < 20
    · obtain ⟨j9, s1, g, wk⟩ := put_ok fs m mr fm p j1 x pr hbs hl20
      refine ⟨j9, s1, g_one (g1_if (b := decide ((l.length : Int) < 20)) (t_lt fm (x_lenS (l := l) fm (x_var fm 2 rfl (fun _ => .inl rfl) rfl) (by omega) (fun _ => rfl) m.len) (x_int fm)) (fun _ => g) (fun q => ?_)), wk⟩
      have y := of_decide_eq_false q
      omega
    · refine ⟨j1, [Jq j1, vl x, vl (l : Txt), vl (Tup.mk bs), .no, .no, .no, .no, .no], g_one (g1_if (b := decide ((l.length : Int) < 20)) (t_lt fm (x_lenS (l := l) fm (x_var fm 2 rfl (fun _ => .inl rfl) rfl) (by omega) (fun _ => rfl) m.len) (x_int fm)) (fun q => ?_) (fun _ => g_nil)), ⟨.inl rfl, .inr rfl, .inr rfl, .inr rfl, .inl rfl, .inl rfl, .inl rfl, .inl rfl, .inl rfl, trivial⟩⟩
      have y := of_decide_eq_true q
      omega
  refine ⟨j9, s9, ?_, wk9⟩
  -- row
  refine g_cons (g1_asg (a := (l : Txt)) (js := [2]) (sl1 := [Jq j1, vl x, .no, .no, .no, .no, .no, .no, .no]) (x_if (c := decide (x = 0)) (sl1 := [Jq j, vl x, .no, .no, .no, .no, .no, .no, .no]) (t_eqI fm (x_var fm 1 rfl (fun _ => .inl rfl) rfl) (x_int fm)) (fun hc => ?_) (fun hc => ?_)) (tg_name fm 2 rfl (fun _ => .inl rfl) (fun _ => .inr rfl))) ?_
  · have e1 : l = rowLV j 10 := by rw [← hl]; exact if_pos (of_decide_eq_true hc)
    have e2 : j1 = rowLJ j 10 := by rw [← hj1]; exact if_pos (of_decide_eq_true hc)
    rw [e1, e2]
    exact (x_call1 (c' := cl (rowLJ j 10).l) fm fs.lrow (fun q => (q, j, 10)) (a_s fm 0 rfl (fun _ => .inl rfl) (.inr ⟨p, rfl⟩) (a_v (x_int fm) a_nil)) (fun _ => ⟨by show (1 : Int) ≤ 10; decide, by show (10 : Int) ≤ 10; decide⟩) rfl (.inr ⟨p, rfl⟩) (fun _ => ⟨⟨rfl, rfl, rfl⟩, rfl, trivial⟩) (fun _ => rfl) (fun _ => rfl) (Nat.le_of_ble_eq_true rfl) (fun _ => rfl))
  · have e1 : l = rowV (dipJ j 10) (1 + dipV j 10) := by rw [← hl]; exact if_neg (of_decide_eq_false hc)
    have e2 : j1 = rowJ (dipJ j 10) (1 + dipV j 10) := by rw [← hj1]; exact if_neg (of_decide_eq_false hc)
    obtain ⟨g1, g2⟩ := dipV_lt j (m := 10) (by decide)
    rw [e1, e2]
    exact (x_call1 (c' := cl (rowJ (dipJ j 10) (1 + dipV j 10)).l) fm fs.row (fun q => (q, dipJ j 10, 1 + dipV j 10)) (a_s fm 0 rfl (fun _ => .inl rfl) (.inr ⟨p, rfl⟩) (a_v (x_add fm (x_int fm) (x_call1 (c' := cl (dipJ j 10).l) fm fs.dip (fun q => (q, j, 10)) (a_s fm 0 rfl (fun _ => .inl rfl) (.inr ⟨p, rfl⟩) (a_v (x_int fm) a_nil)) (fun _ => ⟨(by decide : (0 : Int) < 10), (by decide : (10 : Int) < 1073741824)⟩) rfl (.inr ⟨p, rfl⟩) (fun _ => ⟨⟨rfl, rfl, rfl⟩, rfl, trivial⟩) (fun _ => rfl) (fun _ => rfl) (Nat.le_of_ble_eq_true rfl) (fun _ => rfl))) a_nil)) (fun _ => ⟨by show 1 ≤ 1 + dipV j 10; omega, by show 1 + dipV j 10 ≤ 10; omega⟩) rfl (.inr ⟨p, rfl⟩) (fun _ => ⟨⟨rfl, rfl, rfl⟩, rfl, trivial⟩) (fun _ => rfl) (fun _ => rfl) (Nat.le_of_ble_eq_true rfl) (fun _ => rfl))
  -- due
  refine g_cons (g1_asg (a := Tup.mk bs) (js := [3]) (sl1 := [Jq j1, vl x, vl (l : Txt), .no, .no, .no, .no, .no, .no]) (x_call (b := Tup.mk bs) fm fs.lbun l (a_v (a := l) (x_var fm 2 rfl (fun _ => .inl rfl) rfl) a_nil) ⟨ls, pr⟩ ⟨rfl, trivial⟩ (by rw [← hbs]; rfl) (Nat.le_of_ble_eq_true rfl) (fun _ => rfl)) (tg_name fm 3 rfl (fun _ => .inl rfl) (fun _ => .inr rfl))) ?_
  -- repr
  refine g_no (sl1 := [Jq j1, vl x, vl (l : Txt), vl (Tup.mk bs), .no, .no, .no, .no, .no]) (Wk.T.is (c := !decide (rpr ([Tup.mk bs, Tup.mk bs] : List (Tup Txt)) = rpr ([Tup.mk bs, Tup.mk bs] : List (Tup Txt)))) (t_neS (sl1 := [Jq j1, vl x, vl (l : Txt), vl (Tup.mk bs), .no, .no, .no, .no, .no]) fm (x_repr (a := ([Tup.mk bs, Tup.mk bs] : List (Tup Txt))) fm (EN.val fm (x_list (xs := [Tup.mk bs, Tup.mk bs]) (a_v (a := Tup.mk bs) (sl1 := [Jq j1, vl x, vl (l : Txt), vl (Tup.mk bs), .no, .no, .no, .no, .no]) ?_ (a_v (a := Tup.mk bs) ?_ a_nil)) (by show 2 ≤ 16777216; decide))) told (fun _ => rfl) mr) (x_repr (a := ([Tup.mk bs, Tup.mk bs] : List (Tup Txt))) fm (EN.val fm (x_list (xs := [Tup.mk bs, Tup.mk bs]) (a_v (a := Tup.mk bs) (x_var fm 3 rfl (fun _ => .inl rfl) rfl) (a_v (a := Tup.mk bs) (x_var fm 3 rfl (fun _ => .inl rfl) rfl) a_nil)) (by show 2 ≤ 16777216; decide))) told (fun _ => rfl) mr)) (by simp)) ?_
  · exact x_call fm fs.bun l (a_v (a := l) (x_var fm 2 rfl (fun _ => .inl rfl) rfl) a_nil) ⟨ls, pr⟩ ⟨rfl, trivial⟩ (by rw [← hbs]; rfl) (Nat.le_of_ble_eq_true rfl) (fun _ => rfl)
  · exact x_callK fm fs.bunK l (kw_v (a := l) (x_var fm 2 rfl (fun _ => .inl rfl) rfl) kw_nil) ⟨ls, pr⟩ rfl ⟨rfl, trivial⟩ (by rw [← hbs]; rfl) (Nat.le_of_ble_eq_true rfl) (fun _ => rfl)
  -- join
  obtain ⟨u, hu⟩ : ∃ u : Txt, ups l = u := ⟨_, rfl⟩
  have uup : u.Pairwise (· ≤ ·) := by
    rw [← hu]
    exact (ups_up l).imp fun h => Nat.le_of_lt h
  rw [hu] at fl fll lul lb
  refine g_no (sl1 := [Jq j1, vl x, vl (l : Txt), vl (Tup.mk bs), .no, .no, .no, .no, .no]) (Wk.T.is (c := !decide (u = u)) (t_neS (i := u) (j := u) (sl1 := [Jq j1, vl x, vl (l : Txt), vl (Tup.mk bs), .no, .no, .no, .no, .no]) fm (E.is (x_join0 (ys := sgs u) fm (x_str fm []) (EN.val fm (x_sortedC (l := bs.flatten) (u := u) fm (x_joinT (ys := bs) fm (x_str fm []) (x_var fm 3 rfl (fun _ => .inl rfl) rfl) (by omega)) fl.symm uup (by omega) (fun _ => rfl) m.sorted)) (by rw [sgs_sum]; omega)) (sgs_flat u)) (E.is (x_join0 (ys := sgs u) fm (x_str fm []) (EN.val fm ?_) (by rw [sgs_sum]; omega)) (sgs_flat u))) (by simp)) ?_
  · exact x_callN fm fs.ll l (a_v (x_var fm 2 rfl (fun _ => .inl rfl) rfl) a_nil) l60 ⟨rfl, trivial⟩ (by rw [← hu]; rfl) (Nat.le_of_ble_eq_true rfl) (fun _ => rfl)
  -- links
  let St : Unit → List Wk.Slot := fun _ => [Jq j1, vl x, vl (l : Txt), vl (Tup.mk bs), .no, .no, .no, .no, .no]
  refine g_cons (g1_forN (xs := lpsV l) (sl1 := St ()) fm St () () (fun t s => (St s).set 4 (vl t)) (fun _ (_ : Txt) => ()) (fun _ _ => True) (src_tup (xs := lpsV l) fm ?_) (Wks.refl _) trivial rfl (fun t s => tg_name fm 4 rfl (fun _ => .inr rfl) (fun _ => .inl rfl)) (fun k s t ht _ => ?_)) hp
  · exact x_call fm fs.links l (a_v (x_var fm 2 rfl (fun _ => .inl rfl) rfl) a_nil) ⟨⟨l60, pr.row⟩, pr.occ⟩ ⟨rfl, trivial⟩ (by rw [← eP]; rfl) (Nat.le_of_ble_eq_true rfl) (fun _ => rfl)
  · obtain ⟨c, d, rfl, k⟩ := lps_lk l t (List.mem_of_getElem? ht)
    exact ⟨⟨_, .inl (pair_ok fs m mr fm (Jq j1) x (lk c d k) (by omega)), ⟨.inl rfl, .inl rfl, .inl rfl, .inl rfl, .inr rfl, .inl rfl, .inl rfl, .inl rfl, .inl rfl, trivial⟩⟩, trivial⟩
theorem ok_right {P : Program} {w : World} {K : PySem.W.Frag} {mg : Str → Option Value} {base : Heap} {f : Addr} {fd : FuncData} (F : Fun K "_law_right" "_law_right" sRight f fd) (fs : Fns P w K mg base) (m : Bare mg) (mr : mg "repr" = none) : FnG P w K mg base CX0 7 f fd ["jar"] prRight.sp := by
  refine fn_ok F scRight (fun _ => rfl) (fun _ => rfl) fun cdv A outer s0 H Ee fm a hpre => ?_
  obtain ⟨p, j⟩ := a
  obtain ⟨N, hN⟩ : ∃ N : Jar → Int → Jar, ∀ (q : Jar) (x : Int), ∃ s1, G (cX P w K mg base nsRight "_law_right" sRight f cdv A outer s0 H Ee) bRight [.par p (cl q.l), vl x, .no, .no, .no, .no, .no, .no, .no] (.next s1 : Out Bool) ∧ Wks s1 [.par p (cl (N q x).l), .no, .no, .no, .no, .no, .no, .no, .no] := ⟨fun q x => (turn_ok fs m mr fm p q x).choose, fun q x => (turn_ok fs m mr fm p q x).choose_spec⟩
  let St : Jar → List Wk.Slot := fun q => [.par p (cl q.l), .no, .no, .no, .no, .no, .no, .no, .no]
  refine ⟨St (N (N j 0) 1), fun pc hpc => by simp [prRight] at hpc, ?_⟩
  refine .ret (g_cons (g1_forN fm St j (N (N j 0) 1) (fun x q => (St q).set 1 (vl x)) (fun q (x : Int) => N q x) (fun _ _ => True) (src_range1 (n := 2) fm (x_int fm) (fun _ => rfl) m.range (by decide)) (Wks.refl _) trivial rfl (fun x q => tg_name fm 1 rfl (fun _ => .inl rfl) (fun _ => .inr rfl)) (fun i q x hx _ => ?_)) (g_end (g1_ret (x_bool fm))))
  obtain ⟨s1, h1, h2⟩ := hN q x
  exact ⟨⟨s1, .inl h1, h2⟩, trivial⟩
end Law

namespace Law
open PySem L2 Wk

/-! ### the end -/
structure Top (K : PySem.W.Frag) : Prop where
  lin : Dfn K "letters_in" sLin
  word : Dfn K "is_word" sWord
  isrow : Dfn K "is_row" sIsRow
  ckrow : Dfn K "check_row" sCkRow
  whole : Dfn K "is_whole" sWhole
  betw : Dfn K "is_between" sBetw
  ckpl : Dfn K "check_place" sCkPl
  places : Dfn K "places_of" sPlaces
  inner : Dfn K "inner_of" sInner
  mates : Dfn K "mates_of" sMates
  pairs : Dfn K "pairs_linked" sPairs
  links : Dfn K "links" sLinks
  bunw : Dfn K "bunch_with" sBunW
  bunof : Dfn K "bunches_of" sBunOf
  bun : Dfn K "bunches" sBun
  fresh : Dfn K "fresh_letters" sFresh
  order : Dfn K "in_order" sOrder
  putin : Dfn K "put_in" sPutIn
  jar : Dfn K "_law_jar" sJar
  dip : Dfn K "_law_dip" sDip
  one : Dfn K "_law_one" sOne
  mix : Dfn K "_law_mixed" sMix
  row : Dfn K "_law_any_row" sRow
  ren : Dfn K "_law_renamed" sRen
  line : Dfn K "_law_line" sLine
  put : Dfn K "_law_put" sPut
  flat : Dfn K "_law_flat_row" sFlat
  lrow : Dfn K "_law_row" sLRow
  ll : Dfn K "_law_letters" sLl
  islk : Dfn K "_law_is_linked" sIsLk
  lp : Dfn K "_law_pairs" sLp
  lbun : Dfn K "_law_bunches" sLBun
  right : Dfn K "_law_right" sRight
  law : Dfn K "law" sLaw
structure Nog (K : PySem.W.Frag) : Prop where
  len : PySem.W.nsIn K mainGlobals "len" = some none
  all : PySem.W.nsIn K mainGlobals "all" = some none
  sorted : PySem.W.nsIn K mainGlobals "sorted" = some none
  set : PySem.W.nsIn K mainGlobals "set" = some none
  isi : PySem.W.nsIn K mainGlobals "isinstance" = some none
  str : PySem.W.nsIn K mainGlobals "str" = some none
  int : PySem.W.nsIn K mainGlobals "int" = some none
  bool : PySem.W.nsIn K mainGlobals "bool" = some none
  list : PySem.W.nsIn K mainGlobals "list" = some none
  range : PySem.W.nsIn K mainGlobals "range" = some none
  dict : PySem.W.nsIn K mainGlobals "dict" = some none
  zip : PySem.W.nsIn K mainGlobals "zip" = some none
  enum : PySem.W.nsIn K mainGlobals "enumerate" = some none
  max : PySem.W.nsIn K mainGlobals "max" = some none
  min : PySem.W.nsIn K mainGlobals "min" = some none
  abs : PySem.W.nsIn K mainGlobals "abs" = some none
  divmod : PySem.W.nsIn K mainGlobals "divmod" = some none
  tuple : PySem.W.nsIn K mainGlobals "tuple" = some none
  repr : PySem.W.nsIn K mainGlobals "repr" = some none
  most : ∃ u, PySem.W.nsIn K mainGlobals "MOST_LETTERS" = some (some u) ∧ RelV (.int 10) u
  lets : ∃ u, PySem.W.nsIn K mainGlobals "LETTERS" = some (some u) ∧ RelV (.str (tx abc)) u
theorem all_mk {l : PySem.W.OpenLaw} {w : World} {K : PySem.W.Frag} {h : Heap} {mg : Str → Option Value} {fa : Addr} (X : K.In h) (G : h.Ns mainGlobals mg) (hfa : mg "law" = some (.ref fa)) (T : Top K) (N : Nog K) :
    ∃ fd : FuncData, (∀ (s : Shared) (v : Value), BindsTo s fd ⟨[v], []⟩ [("script", v)]) ∧ ∀ base : Heap, K.In base → base.Ns mainGlobals mg → FnG l.prog w K mg base CX0 8 fa fd ["script"] (prLaw K).sp := by
  have no : ∀ {x : Str}, NoG K x → mg x = none := fun z => PySem.W.mg_none_of X G z
  obtain ⟨u1, e1, ⟨t1, rfl⟩⟩ := N.most
  obtain ⟨u2, e2, ⟨t2, rfl⟩⟩ := N.lets
  have m : Bare mg := ⟨no N.len, no N.all, no N.sorted, no N.set, no N.isi, no N.str, no N.int, no N.bool, no N.list, no N.range, no N.dict, no N.zip, no N.enum, ⟨t1, PySem.W.mg_of X G e1⟩, ⟨t2, PySem.W.mg_of X G e2⟩⟩
  obtain ⟨f, fd, a, F, kp⟩ := T.law
  have e := hfa.symm.trans (PySem.W.mg_of X G a)
  cases e
  refine ⟨fd, fun s v => ?_, fun base _ _ => ?_⟩
  · obtain ⟨oc, od, kV, doc, pm, an, cdv, ct, osl, rfl, _, _⟩ := F.ex
    exact .of_eq rfl
  have cLin : Fnc l.prog w K mg base 1 "letters_in" ["row"] prLin := fnc_mk T.lin X G (fun f fd F => ok_lin F m) fun _ _ _ _ _ _ us hl => match us, hl with | [_], _ => rfl
  have cWord : Fnc l.prog w K mg base 1 "is_word" ["value"] prWord := fnc_mk T.word X G (fun f fd F => ok_word F m) fun _ _ _ _ _ _ us hl => match us, hl with | [_], _ => rfl
  have cIsRow : Fnc l.prog w K mg base 2 "is_row" ["value"] prIsRow := fnc_mk T.isrow X G (fun f fd F => ok_isrow F cWord cLin m) fun _ _ _ _ _ _ us hl => match us, hl with | [_], _ => rfl
  have cCkRow : Fnc l.prog w K mg base 3 "check_row" ["value"] prCkRow := fnc_mk T.ckrow X G (fun f fd F => ok_ckrow F cIsRow) fun _ _ _ _ _ _ us hl => match us, hl with | [_], _ => rfl
  have cWhole : Fnc l.prog w K mg base 1 "is_whole" ["value"] prWhole := fnc_mk T.whole X G (fun f fd F => ok_whole F m) fun _ _ _ _ _ _ us hl => match us, hl with | [_], _ => rfl
  have cBetw : Fnc l.prog w K mg base 2 "is_between" ["value", "low", "high"] prBetw := fnc_mk T.betw X G (fun f fd F => ok_betw F cWhole) fun _ _ _ _ _ _ us hl => match us, hl with | [_, _, _], _ => rfl
  have cCkPl : Fnc l.prog w K mg base 3 "check_place" ["row", "value"] prCkPl := fnc_mk T.ckpl X G (fun f fd F => ok_ckpl F cBetw m) fun _ _ _ _ _ _ us hl => match us, hl with | [_, _], _ => rfl
  have cPlaces : Fnc l.prog w K mg base 1 "places_of" ["row", "letter"] prPlaces := fnc_mk T.places X G (fun f fd F => ok_places F m.enum) fun _ _ _ _ _ _ us hl => match us, hl with | [_, _], _ => rfl
  have cInner : Fnc l.prog w K mg base 2 "inner_of" ["row", "letter"] prInner := fnc_mk T.inner X G (fun f fd F => ok_inner F cPlaces) fun _ _ _ _ _ _ us hl => match us, hl with | [_, _], _ => rfl
  have cMates : Fnc l.prog w K mg base 3 "mates_of" ["row", "letter"] prMates := fnc_mk T.mates X G (fun f fd F => ok_mates F cInner cLin) fun _ _ _ _ _ _ us hl => match us, hl with | [_, _], _ => rfl
  have cPairs : Fnc l.prog w K mg base 4 "pairs_linked" ["row"] prPairs := fnc_mk T.pairs X G (fun f fd F => ok_pairs F cLin cMates) fun _ _ _ _ _ _ us hl => match us, hl with | [_], _ => rfl
  have cLinks : Fnc l.prog w K mg base 5 "links" ["row"] prLinks := fnc_mk T.links X G (fun f fd F => ok_links F cCkRow cPairs (no N.tuple)) fun _ _ _ _ _ _ us hl => match us, hl with | [_], _ => rfl
  have cBunW : Fnc l.prog w K mg base 4 "bunch_with" ["row", "letter"] prBunW := fnc_mk T.bunw X G (fun f fd F => ok_bunw F cMates m) fun _ _ _ _ _ _ us hl => match us, hl with | [_, _], _ => rfl
  have cBunOf : Fnc l.prog w K mg base 5 "bunches_of" ["row"] prBunOf := fnc_mk T.bunof X G (fun f fd F => ok_bunof F cLin cBunW m) fun _ _ _ _ _ _ us hl => match us, hl with | [_], _ => rfl
  have cBun : Fnc l.prog w K mg base 6 "bunches" ["row"] prBun := fnc_mk T.bun X G (fun f fd F => ok_bun F cCkRow cBunOf (no N.tuple)) fun _ _ _ _ _ _ us hl => match us, hl with | [_], _ => rfl
  have kBun : Fnk l.prog w K mg base 6 "bunches" ["row"] 0 ["row"] false prBun := fnk_mk T.bun X G (fun f fd F => ok_bun F cCkRow cBunOf (no N.tuple)) fun _ _ _ _ _ _ us ws h1 h2 => match us, ws, h1, h2 with | [], [_], _, _ => rfl
  have cFresh : Fnc l.prog w K mg base 1 "fresh_letters" ["row"] prFresh := fnc_mk T.fresh X G (fun f fd F => ok_fresh F m.lets) fun _ _ _ _ _ _ us hl => match us, hl with | [_], _ => rfl
  have cOrder : Fnc l.prog w K mg base 1 "in_order" ["row"] prOrder := fnc_mk T.order X G (fun f fd F => ok_order F) fun _ _ _ _ _ _ us hl => match us, hl with | [_], _ => rfl
  have cPutIn : Fnc l.prog w K mg base 4 "put_in" ["row", "place", "other"] prPutIn := fnc_mk T.putin X G (fun f fd F => ok_putin F cCkRow cCkPl cIsRow cOrder cFresh m) fun _ _ _ _ _ _ us hl => match us, hl with | [_, _, _], _ => rfl
  have cJar : Fnc l.prog w K mg base 1 "_law_jar" ["script", "at"] (prJar K) := fnc_mk T.jar X G (fun f fd F => ok_jar F m.int m.len (no N.abs)) fun _ _ _ _ _ _ us hl => match us, hl with | [_, _], _ => rfl
  have cDip : Fnc l.prog w K mg base 1 "_law_dip" ["jar", "many"] prDip := fnc_mk T.dip X G (fun f fd F => ok_dip F (no N.divmod) m.int) fun _ _ _ _ _ _ us hl => match us, hl with | [_, _], _ => rfl
  have cOne : Fnc l.prog w K mg base 2 "_law_one" ["jar", "menu"] prOne := fnc_mk T.one X G (fun f fd F => ok_one F cDip m) fun _ _ _ _ _ _ us hl => match us, hl with | [_, _], _ => rfl
  have cMixT : Fnc l.prog w K mg base 2 "_law_mixed" ["jar", "menu"] (prMix sing) := fnc_mk T.mix X G (fun f fd F => ok_mixT F cDip m.list m.len) fun _ _ _ _ _ _ us hl => match us, hl with | [_, _], _ => rfl
  have cMixL : Fnc l.prog w K mg base 2 "_law_mixed" ["jar", "menu"] (prMix (α := Int) (β := List Int) id) := fnc_mk T.mix X G (fun f fd F => ok_mixL F cDip m.list m.len) fun _ _ _ _ _ _ us hl => match us, hl with | [_, _], _ => rfl
  have cRow : Fnc l.prog w K mg base 3 "_law_any_row" ["jar", "many"] prRow := fnc_mk T.row X G (fun f fd F => ok_row F cMixT cMixL m.list m.range) fun _ _ _ _ _ _ us hl => match us, hl with | [_, _], _ => rfl
  have cRenL : Fnc l.prog w K mg base 1 "_law_renamed" ["row", "menu"] prRenL := fnc_mk T.ren X G (fun f fd F => ok_renL F m.len) fun _ _ _ _ _ _ us hl => match us, hl with | [_, _], _ => rfl
  have cLine : Fnc l.prog w K mg base 3 "_law_line" ["jar", "row"] prLine := fnc_mk T.line X G (fun f fd F => ok_line F cDip cMixT cRenL m) fun _ _ _ _ _ _ us hl => match us, hl with | [_, _], _ => rfl
  have cPut : Fnc l.prog w K mg base 2 "_law_put" ["row", "at", "other"] prPut := fnc_mk T.put X G (fun f fd F => ok_put F cRenL) fun _ _ _ _ _ _ us hl => match us, hl with | [_, _, _], _ => rfl
  have cFlat : Fnc l.prog w K mg base 4 "_law_flat_row" ["jar", "most"] prFlat := fnc_mk T.flat X G (fun f fd F => ok_flat F cDip cOne cLine cPut m) fun _ _ _ _ _ _ us hl => match us, hl with | [_, _], _ => rfl
  have cLRow : Fnc l.prog w K mg base 5 "_law_row" ["jar", "most"] prLRow := fnc_mk T.lrow X G (fun f fd F => ok_lrow F cDip cRow cFlat m) fun _ _ _ _ _ _ us hl => match us, hl with | [_, _], _ => rfl
  have cLl : Fnc l.prog w K mg base 1 "_law_letters" ["row"] prLl := fnc_mk T.ll X G (fun f fd F => ok_ll F m) fun _ _ _ _ _ _ us hl => match us, hl with | [_], _ => rfl
  have cIsLk : Fnc l.prog w K mg base 1 "_law_is_linked" ["row", "one", "other"] prIsLk := fnc_mk T.islk X G (fun f fd F => ok_islk F) fun _ _ _ _ _ _ us hl => match us, hl with | [_, _, _], _ => rfl
  have cLp : Fnc l.prog w K mg base 2 "_law_pairs" ["row"] prLp := fnc_mk T.lp X G (fun f fd F => ok_lp F cLl cIsLk) fun _ _ _ _ _ _ us hl => match us, hl with | [_], _ => rfl
  have cLBun : Fnc l.prog w K mg base 3 "_law_bunches" ["row"] prLBun := fnc_mk T.lbun X G (fun f fd F => ok_lbun F cLl cLp m (no N.tuple)) fun _ _ _ _ _ _ us hl => match us, hl with | [_], _ => rfl
  have cRight : Fnc l.prog w K mg base 7 "_law_right" ["jar"] prRight := fnc_mk T.right X G (fun f fd F => ok_right F ⟨cDip, cRow, cLRow, cLl, cLBun, cBun, kBun, cLinks, cPutIn⟩ m (no N.repr)) fun _ _ _ _ _ _ us hl => match us, hl with | [_], _ => rfl
  exact ok_law F cJar cRight (by decide) m.all m.range (no N.max) (no N.min) m.len
theorem walk {l : PySem.W.OpenLaw} {q : Program} {loose : List Str} {XP : (Str → Option Value) → Heap → Prop} {YP : World → Heap → Prop} {d : DefRec} {K : Params → PySem.W.Frag} (hn : l.most = some 63) (hdf : d.params.defaults = [])
    (hY : ∀ (w : World) (h : Heap), YP w h → (K w.params).In h)
    (F : ∀ (w : World) (mg : Str → Option Value) (fa : Addr) (h : Heap), (K w.params).In h → h.Ns mainGlobals mg → mg d.name = some (.ref fa) →
      ∃ fd : FuncData, (∀ (s : Shared) (u : Value), BindsTo s fd ⟨[u], []⟩ [("script", u)]) ∧ ∀ base : Heap, (K w.params).In base → base.Ns mainGlobals mg → FnG l.prog w (K w.params) mg base CX0 8 fa fd ["script"] (prLaw (K w.params)).sp) :
    PySem.W.WalkO q loose XP YP l.row.toRowW d [] (fun f vs => PySem.call f vs) :=
  walkG (n := 63) (k := 8) (x := "script") (sp := fun K => (prLaw K).sp) hn (by decide) hdf ⟨rfl, by decide, by decide⟩ hY F
    (fun K H c ns hl hS => ⟨Scr.mk ns, H, ⟨.refl H, List.nodup_nil, ⟨⟨_, rfl, ⟨c, rfl, hS⟩⟩, trivial⟩⟩, hl, fun v _ _ _ _ _ hv => hv⟩)
end Law

open PySem PySem.W PyProof.Rows in
set_option maxRecDepth 100000 in
set_option maxHeartbeats 0 in
theorem PySem.Challenge.cw_crosslines_k10_whole_bunches_holds : PySem.Challenge.rw_crosslines_k10_whole_bunches.Holds := by
  w_on; o_law; k_head; (case hw => w_witness2)
  k_fill
  refine Law.walk (l := PySem.Challenge.rw_crosslines_k10_whole_bunches) rfl rfl (fun v m' y => PySem.W.kIn_of y) ?F
  case F =>
    intro v mg fa m' inn glo hmg
    refine' Law.all_mk inn glo hmg ⟨?d0, ?d1, ?d2, ?d3, ?d4, ?d5, ?d6, ?d7, ?d8, ?d9, ?d10, ?d11, ?d12, ?d13, ?d14, ?d15, ?d16, ?d17, ?d18, ?d19, ?d20, ?d21, ?d22, ?d23, ?d24, ?d25, ?d26, ?d27, ?d28, ?d29, ?d30, ?d31, ?d32, ?d33⟩ ⟨?n0, ?n1, ?n2, ?n3, ?n4, ?n5, ?n6, ?n7, ?n8, ?n9, ?n10, ?n11, ?n12, ?n13, ?n14, ?n15, ?n16, ?n17, ?n18, ?c0, ?c1⟩
    (case d0 => refine' Wk.dfn_mk ?a ?b ?c ?d; (case a => k_is); (case b => k_is); (case c => k_is); (case d => k_is))
    (case d1 => refine' Wk.dfn_mk ?a ?b ?c ?d; (case a => k_is); (case b => k_is); (case c => k_is); (case d => k_is))
    (case d2 => refine' Wk.dfn_mk ?a ?b ?c ?d; (case a => k_is); (case b => k_is); (case c => k_is); (case d => k_is))
    (case d3 => refine' Wk.dfn_mk ?a ?b ?c ?d; (case a => k_is); (case b => k_is); (case c => k_is); (case d => k_is))
    (case d4 => refine' Wk.dfn_mk ?a ?b ?c ?d; (case a => k_is); (case b => k_is); (case c => k_is); (case d => k_is))
    (case d5 => refine' Wk.dfn_mk ?a ?b ?c ?d; (case a => k_is); (case b => k_is); (case c => k_is); (case d => k_is))
    (case d6 => refine' Wk.dfn_mk ?a ?b ?c ?d; (case a => k_is); (case b => k_is); (case c => k_is); (case d => k_is))
    (case d7 => refine' Wk.dfn_mk ?a ?b ?c ?d; (case a => k_is); (case b => k_is); (case c => k_is); (case d => k_is))
    (case d8 => refine' Wk.dfn_mk ?a ?b ?c ?d; (case a => k_is); (case b => k_is); (case c => k_is); (case d => k_is))
    (case d9 => refine' Wk.dfn_mk ?a ?b ?c ?d; (case a => k_is); (case b => k_is); (case c => k_is); (case d => k_is))
    (case d10 => refine' Wk.dfn_mk ?a ?b ?c ?d; (case a => k_is); (case b => k_is); (case c => k_is); (case d => k_is))
    (case d11 => refine' Wk.dfn_mk ?a ?b ?c ?d; (case a => k_is); (case b => k_is); (case c => k_is); (case d => k_is))
    (case d12 => refine' Wk.dfn_mk ?a ?b ?c ?d; (case a => k_is); (case b => k_is); (case c => k_is); (case d => k_is))
    (case d13 => refine' Wk.dfn_mk ?a ?b ?c ?d; (case a => k_is); (case b => k_is); (case c => k_is); (case d => k_is))
    (case d14 => refine' Wk.dfn_mk ?a ?b ?c ?d; (case a => k_is); (case b => k_is); (case c => k_is); (case d => k_is))
    (case d15 => refine' Wk.dfn_mk ?a ?b ?c ?d; (case a => k_is); (case b => k_is); (case c => k_is); (case d => k_is))
    (case d16 => refine' Wk.dfn_mk ?a ?b ?c ?d; (case a => k_is); (case b => k_is); (case c => k_is); (case d => k_is))
    (case d17 => refine' Wk.dfn_mk ?a ?b ?c ?d; (case a => k_is); (case b => k_is); (case c => k_is); (case d => k_is))
    (case d18 => refine' Wk.dfn_mk ?a ?b ?c ?d; (case a => k_is); (case b => k_is); (case c => k_is); (case d => k_is))
    (case d19 => refine' Wk.dfn_mk ?a ?b ?c ?d; (case a => k_is); (case b => k_is); (case c => k_is); (case d => k_is))
    (case d20 => refine' Wk.dfn_mk ?a ?b ?c ?d; (case a => k_is); (case b => k_is); (case c => k_is); (case d => k_is))
    (case d21 => refine' Wk.dfn_mk ?a ?b ?c ?d; (case a => k_is); (case b => k_is); (case c => k_is); (case d => k_is))
    (case d22 => refine' Wk.dfn_mk ?a ?b ?c ?d; (case a => k_is); (case b => k_is); (case c => k_is); (case d => k_is))
    (case d23 => refine' Wk.dfn_mk ?a ?b ?c ?d; (case a => k_is); (case b => k_is); (case c => k_is); (case d => k_is))
    (case d24 => refine' Wk.dfn_mk ?a ?b ?c ?d; (case a => k_is); (case b => k_is); (case c => k_is); (case d => k_is))
    (case d25 => refine' Wk.dfn_mk ?a ?b ?c ?d; (case a => k_is); (case b => k_is); (case c => k_is); (case d => k_is))
    (case d26 => refine' Wk.dfn_mk ?a ?b ?c ?d; (case a => k_is); (case b => k_is); (case c => k_is); (case d => k_is))
    (case d27 => refine' Wk.dfn_mk ?a ?b ?c ?d; (case a => k_is); (case b => k_is); (case c => k_is); (case d => k_is))
    (case d28 => refine' Wk.dfn_mk ?a ?b ?c ?d; (case a => k_is); (case b => k_is); (case c => k_is); (case d => k_is))
    (case d29 => refine' Wk.dfn_mk ?a ?b ?c ?d; (case a => k_is); (case b => k_is); (case c => k_is); (case d => k_is))
    (case d30 => refine' Wk.dfn_mk ?a ?b ?c ?d; (case a => k_is); (case b => k_is); (case c => k_is); (case d => k_is))
    (case d31 => refine' Wk.dfn_mk ?a ?b ?c ?d; (case a => k_is); (case b => k_is); (case c => k_is); (case d => k_is))
    (case d32 => refine' Wk.dfn_mk ?a ?b ?c ?d; (case a => k_is); (case b => k_is); (case c => k_is); (case d => k_is))
    (case d33 => refine' Wk.dfn_mk ?a ?b ?c ?d; (case a => k_is); (case b => k_is); (case c => k_is); (case d => k_is))
    (case n0 => k_is)
    (case n1 => k_is)
    (case n2 => k_is)
    (case n3 => k_is)
    (case n4 => k_is)
    (case n5 => k_is)
    (case n6 => k_is)
    (case n7 => k_is)
    (case n8 => k_is)
    (case n9 => k_is)
    (case n10 => k_is)
    (case n11 => k_is)
    (case n12 => k_is)
    (case n13 => k_is)
    (case n14 => k_is)
    (case n15 => k_is)
    (case n16 => k_is)
    (case n17 => k_is)
    (case n18 => k_is)
    (case c0 => refine' Wk.cst_mk ?a ?b; (case a => k_is); (case b => exact ⟨_, rfl⟩))
    (case c1 => refine' Wk.cst_mk ?a ?b; (case a => k_is); (case b => exact ⟨_, rfl⟩))
