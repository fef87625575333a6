import PyProof.Rows.All
import HandS.ForMost
import HandS.Exc
import HandS.TryOnly
import HandS.ExcOwn
import HandS.Defaults
import HandS.Property
import HandS.DictComp
import HandS.Walk
import HandS.Style
import HandS.Deep
import Wide.All
import OpenK.AllK
import Wide.FinOn
import KE.KStateDown
import Lean
import HandS.HeadHook1
import HandS.HeadHook2
import PySem.Challenge.RW_risingbars_k73_whole_logs_that_say_the_s
import HandS.Head0
import HandS.Head1
import HandS.Head2
import HandS.HeadEnd
import HandS.SortKw
import HandS.SetKeys
import HandS.Strs
import KE.DataMinMax
import KE.SortData
import KE.KDictWalk
import KE.KDictCopyH
import KE.KDictSum
import HandS.SetFor
import HandS.WordsExc
set_option Elab.async false
set_option linter.all false
set_option maxRecDepth 100000
set_option maxHeartbeats 0
/-! The plain law, part 1: logs, links, and what leaving answers out, reading backwards and staying do to links. -/
namespace RB
inductive Drift where
  | rises | falls | stays
  deriving DecidableEq
inductive Ev (S : Type) where
  | ans (j i : S) (g : Int)
  | res (j : S)
structure LogD (S : Type) where
  items : List S
  grades : Int
  judges : List (S × Drift)
  events : List (Ev S)

def ord : Drift → Nat → Nat → Prop
  | .stays, _, _ => True
  | .rises, p, q => p < q
  | .falls, p, q => q < p
instance (d : Drift) (p q : Nat) : Decidable (ord d p q) := by cases d <;> unfold ord <;> infer_instance
def flip : Drift → Drift
  | .stays => .stays
  | .rises => .falls
  | .falls => .rises

section
variable {S : Type}
def NoRes (L : LogD S) (j : S) (p q : Nat) : Prop := ∀ r, p < r → r < q → L.events[r]? ≠ some (.res j)
def Same (L : LogD S) (j : S) (p q : Nat) : Prop := NoRes L j p q ∧ NoRes L j q p
theorem Same.symm {L : LogD S} {j : S} {p q : Nat} (h : Same L j p q) : Same L j q p := ⟨h.2, h.1⟩
theorem Same.refl (L : LogD S) (j : S) (p : Nat) : Same L j p p := ⟨fun r a b => by omega, fun r a b => by omega⟩
/-- p is an answer of j -/
def AnsOf (L : LogD S) (j : S) (p : Nat) : Prop := ∃ i g, L.events[p]? = some (.ans j i g)
theorem Same.trans {L : LogD S} {j : S} {p q r : Nat} (hq : AnsOf L j q) (h1 : Same L j p q) (h2 : Same L j q r) : Same L j p r := by
  obtain ⟨i, g, hq⟩ := hq
  have key : ∀ a c, Same L j a q → Same L j q c → NoRes L j a c := fun a c u v m h3 h4 e => by
    by_cases hm : m = q
    · rw [hm, hq] at e
      cases e
    · rcases Nat.lt_or_gt_of_ne hm with h | h
      · exact u.1 m h3 h e
      · exact v.1 m h h4 e
  exact ⟨key p r h1 h2, key r p h2.symm h1.symm⟩
/-- a link from p to q, leading from x to y -/
def Link (L : LogD S) (p q : Nat) (x y : S) : Prop :=
  ∃ j g h d, L.events[p]? = some (.ans j x g) ∧ L.events[q]? = some (.ans j y h) ∧ (j, d) ∈ L.judges ∧ g < h ∧ ord d p q ∧ Same L j p q
/-- some link by the answers P leads from x to y -/
def LkR (L : LogD S) (P : Nat → Prop) (x y : S) : Prop := ∃ p q, P p ∧ P q ∧ Link L p q x y
abbrev Bt (L : LogD S) (P : Nat → Prop) : S → S → Prop := Relation.TransGen (LkR L P)
abbrev All : Nat → Prop := fun _ => True
theorem LkR.mono {L : LogD S} {P Q : Nat → Prop} (h : ∀ p, P p → Q p) {x y : S} : LkR L P x y → LkR L Q x y
  | ⟨p, q, a, b, c⟩ => ⟨p, q, h p a, h q b, c⟩
end

/-! ### ways -/
theorem tg_mono {α : Type} {r s : α → α → Prop} (h : ∀ x y, r x y → s x y) {x y : α} (t : Relation.TransGen r x y) : Relation.TransGen s x y := by
  induction t with
  | single a => exact .single (h _ _ a)
  | tail _ b ih => exact .tail ih (h _ _ b)
theorem tg_trans {α : Type} {r : α → α → Prop} {x y z : α} (a : Relation.TransGen r x y) (b : Relation.TransGen r y z) : Relation.TransGen r x z := by
  induction b with
  | single b => exact .tail a b
  | tail _ c ih => exact .tail ih c
theorem tg_join {α : Type} {r s : α → α → Prop} (h : ∀ x y, r x y → Relation.TransGen s x y) {x y : α} (t : Relation.TransGen r x y) : Relation.TransGen s x y := by
  induction t with
  | single a => exact h _ _ a
  | tail _ b ih => exact tg_trans ih (h _ _ b)
theorem tg_head {α : Type} {r : α → α → Prop} {x y : α} (t : Relation.TransGen r x y) : r x y ∨ ∃ z, r x z ∧ Relation.TransGen r z y := by
  induction t with
  | single a => exact .inl a
  | tail t b ih =>
    rcases ih with h | ⟨z, h1, h2⟩
    · exact .inr ⟨_, h, .single b⟩
    · exact .inr ⟨z, h1, .tail h2 b⟩
theorem tg_iff {α : Type} {r s : α → α → Prop} (h : ∀ x y, r x y ↔ s x y) (x y : α) : Relation.TransGen r x y ↔ Relation.TransGen s x y :=
  ⟨tg_mono fun a b => (h a b).mp, tg_mono fun a b => (h a b).mpr⟩
theorem Bt.mono {S : Type} {L : LogD S} {P Q : Nat → Prop} (h : ∀ p, P p → Q p) {x y : S} : Bt L P x y → Bt L Q x y := tg_mono fun _ _ => LkR.mono h

/-! ### leaving answers out -/
section
variable {S : Type}
/-- L' has just the events of L at the places that keep says, all resets among them -/
structure Cut (L L' : LogD S) (keep : Nat → Prop) : Prop where
  items : L'.items = L.items
  judges : L'.judges = L.judges
  ex : ∃ zs : List (Ev S × Nat), zs.Pairwise (fun a b => a.2 < b.2) ∧ (∀ e k, (e, k) ∈ zs ↔ L.events[k]? = some e ∧ keep k) ∧ L'.events = zs.map (·.1)
  resets : ∀ k j, L.events[k]? = some (.res j) → keep k
theorem pw_lt {α : Type} {f : α → Nat} {zs : List α} (h : zs.Pairwise (fun a b => f a < f b)) {i j : Nat} {a b : α} (ha : zs[i]? = some a) (hb : zs[j]? = some b) : i < j ↔ f a < f b := by
  obtain ⟨hi, rfl⟩ := List.getElem?_eq_some_iff.mp ha
  obtain ⟨hj, rfl⟩ := List.getElem?_eq_some_iff.mp hb
  have key := List.pairwise_iff_getElem.mp h
  constructor
  · intro hij
    exact key i j hi hj hij
  · intro hlt
    rcases Nat.lt_trichotomy i j with g | g | g
    · exact g
    · subst g; omega
    · have := key j i hj hi g; omega
theorem Cut.lk {L L' : LogD S} {keep : Nat → Prop} (c : Cut L L' keep) (x y : S) : LkR L' All x y ↔ LkR L keep x y := by
  obtain ⟨zs, pw, hz, he⟩ := c.ex
  have get : ∀ i e, L'.events[i]? = some e → ∃ k, zs[i]? = some (e, k) ∧ L.events[k]? = some e ∧ keep k := fun i e h => by
    rw [he, List.getElem?_map] at h
    cases q : zs[i]? with
    | none => rw [q] at h; cases h
    | some z =>
      rw [q] at h
      obtain ⟨e', k⟩ := z
      have : e' = e := Option.some.inj h
      subst this
      have := (hz e' k).mp (List.mem_of_getElem? q)
      exact ⟨k, q, this.1, this.2⟩
  have put : ∀ e k, L.events[k]? = some e → keep k → ∃ i, zs[i]? = some (e, k) ∧ L'.events[i]? = some e := fun e k h hk => by
    obtain ⟨i, hi⟩ := List.mem_iff_getElem?.mp ((hz e k).mpr ⟨h, hk⟩)
    exact ⟨i, hi, by rw [he, List.getElem?_map, hi]; rfl⟩
  have ordc : ∀ (d : Drift) i j a b, zs[i]? = some a → zs[j]? = some b → (ord d i j ↔ ord d a.2 b.2) := fun d i j a b ha hb => by
    cases d with
    | stays => exact Iff.rfl
    | rises => exact pw_lt pw ha hb
    | falls => exact pw_lt pw hb ha
  have nores : ∀ j i i' e e' k k', zs[i]? = some (e, k) → zs[i']? = some (e', k') → (NoRes L' j i i' ↔ NoRes L j k k') := fun j i i' e e' k k' h1 h2 => by
    constructor
    · intro h r a b er
      obtain ⟨m, hm, em⟩ := put _ r er (c.resets r j er)
      exact h m ((pw_lt pw h1 hm).mpr a) ((pw_lt pw hm h2).mpr b) em
    · intro h r a b er
      obtain ⟨m, hm, em, _⟩ := get r _ er
      exact h m ((pw_lt pw h1 hm).mp a) ((pw_lt pw hm h2).mp b) em
  constructor
  · rintro ⟨p, q, _, _, j, g, h, d, e1, e2, hj, hg, ho, hs⟩
    obtain ⟨p', z1, f1, k1⟩ := get p _ e1
    obtain ⟨q', z2, f2, k2⟩ := get q _ e2
    exact ⟨p', q', k1, k2, j, g, h, d, f1, f2, c.judges ▸ hj, hg, (ordc d p q _ _ z1 z2).mp ho, (nores j _ _ _ _ _ _ z1 z2).mp hs.1, (nores j _ _ _ _ _ _ z2 z1).mp hs.2⟩
  · rintro ⟨p', q', k1, k2, j, g, h, d, f1, f2, hj, hg, ho, hs⟩
    obtain ⟨p, z1, e1⟩ := put _ p' f1 k1
    obtain ⟨q, z2, e2⟩ := put _ q' f2 k2
    exact ⟨p, q, trivial, trivial, j, g, h, d, e1, e2, c.judges.symm ▸ hj, hg, (ordc d p q _ _ z1 z2).mpr ho, (nores j _ _ _ _ _ _ z1 z2).mpr hs.1, (nores j _ _ _ _ _ _ z2 z1).mpr hs.2⟩
/-- the list of a comprehension over enumerate -/
theorem cut_of {L : LogD S} {f : Nat → Bool} (hr : ∀ k j, L.events[k]? = some (.res j) → f k = true) :
    Cut L { L with events := (L.events.zipIdx.filter fun z => f z.2).map (·.1) } (fun k => f k = true) := by
  refine ⟨rfl, rfl, ⟨_, ?_, fun e k => ?_, rfl⟩, hr⟩
  · refine List.Pairwise.filter _ ?_
    rw [List.pairwise_iff_getElem]
    intro i j hi hj hij
    simp only [List.getElem_zipIdx]
    omega
  · rw [List.mem_filter, List.mem_zipIdx_iff_getElem?]
theorem Cut.all {L L' : LogD S} {keep P : Nat → Prop} (c : Cut L L' keep) (h : ∀ p q x y, Link L p q x y → (keep p ∧ keep q ↔ P p ∧ P q)) (x y : S) : LkR L' All x y ↔ LkR L P x y := by
  rw [c.lk]
  constructor
  · rintro ⟨p, q, a, b, l⟩
    have := (h p q x y l).mp ⟨a, b⟩
    exact ⟨p, q, this.1, this.2, l⟩
  · rintro ⟨p, q, a, b, l⟩
    have := (h p q x y l).mpr ⟨a, b⟩
    exact ⟨p, q, this.1, this.2, l⟩

/-! ### an answer put in -/
theorem cut_put {L L' : LogD S} {m : Nat} {j i : S} {g : Int} (hm : m ≤ L.events.length) (hi : L'.items = L.items) (hj : L'.judges = L.judges)
    (he : L'.events = L.events.take m ++ [.ans j i g] ++ L.events.drop m) : Cut L' L (fun k => k ≠ m) := by
  have lt : (L.events.take m).length = m := by rw [List.length_take]; omega
  refine ⟨hi.symm, hj.symm, ⟨(L.events.take m).zipIdx ++ (L.events.drop m).zipIdx (m + 1), ?_, fun e k => ?_, ?_⟩, fun k j' h e => ?_⟩
  · rw [List.pairwise_append]
    refine ⟨?_, ?_, ?_⟩
    · rw [List.pairwise_iff_getElem]
      intro a b ha hb hab
      simp only [List.getElem_zipIdx]
      omega
    · rw [List.pairwise_iff_getElem]
      intro a b ha hb hab
      simp only [List.getElem_zipIdx]
      omega
    · intro a ha b hb
      have h1 := List.mem_zipIdx ha
      have h2 := List.mem_zipIdx hb
      omega
  · rw [he, List.mem_append]
    constructor
    · rintro (h | h)
      · have h1 := List.mem_zipIdx_iff_getElem?.mp h
        have hk : k < m := by
          have := (List.getElem?_eq_some_iff.mp h1).1
          omega
        refine ⟨?_, by omega⟩
        rw [List.append_assoc, List.getElem?_append_left (by omega)]
        exact h1
      · have h1 := List.mem_zipIdx h
        have h2 : (L.events.drop m)[k - (m + 1)]? = some e := by
          have := (List.mem_zipIdx_iff_le_and_getElem?_sub (k := m + 1)).mp h
          exact this.2
        refine ⟨?_, by omega⟩
        rw [List.append_assoc, List.getElem?_append_right (by omega), List.getElem?_append_right (by simp; omega)]
        simp only [List.length_singleton, lt]
        rw [show k - m - 1 = k - (m + 1) by omega]
        exact h2
    · rintro ⟨h, hk⟩
      by_cases hlt : k < m
      · left
        rw [List.append_assoc, List.getElem?_append_left (by omega)] at h
        exact List.mem_zipIdx_iff_getElem?.mpr h
      · right
        rw [List.append_assoc, List.getElem?_append_right (by omega), List.getElem?_append_right (by simp; omega)] at h
        simp only [List.length_singleton, lt] at h
        rw [show k - m - 1 = k - (m + 1) by omega] at h
        exact (List.mem_zipIdx_iff_le_and_getElem?_sub (k := m + 1)).mpr ⟨by omega, h⟩
  · rw [List.map_append, List.zipIdx_map_fst, List.zipIdx_map_fst, List.take_append_drop]
  · subst e
    rw [he, List.append_assoc, List.getElem?_append_right (by omega), lt] at h
    simp at h

/-! ### backwards -/
theorem back_link {L L' : LogD S} (hj : L'.judges = L.judges.map fun z => (z.1, flip z.2)) (he : L'.events = L.events.reverse) {p q : Nat} {x y : S} (h : Link L p q x y) : Link L' (L.events.length - 1 - p) (L.events.length - 1 - q) x y := by
  obtain ⟨j, g, h', d, e1, e2, hjd, hg, ho, hs⟩ := h
  have l1 := (List.getElem?_eq_some_iff.mp e1).1
  have l2 := (List.getElem?_eq_some_iff.mp e2).1
  have get : ∀ i, i < L.events.length → L'.events[L.events.length - 1 - i]? = L.events[i]? := fun i hi => by
    rw [he, List.getElem?_reverse (by omega)]
    congr 1
    omega
  have nores : ∀ a b, a < L.events.length → b < L.events.length → NoRes L j a b → NoRes L' j (L.events.length - 1 - b) (L.events.length - 1 - a) := fun a b ha hb hn r h1 h2 e => by
    have hr : r < L.events.length := by omega
    have e3 := get (L.events.length - 1 - r) (by omega)
    rw [show L.events.length - 1 - (L.events.length - 1 - r) = r by omega, e] at e3
    exact hn (L.events.length - 1 - r) (by omega) (by omega) e3.symm
  refine ⟨j, g, h', flip d, by rw [get p l1]; exact e1, by rw [get q l2]; exact e2, ?_, hg, ?_, nores q p l2 l1 hs.2, nores p q l1 l2 hs.1⟩
  · rw [hj]
    exact List.mem_map.mpr ⟨(j, d), hjd, rfl⟩
  · cases d with
    | stays => trivial
    | rises =>
      have : p < q := ho
      show L.events.length - 1 - q < L.events.length - 1 - p
      omega
    | falls =>
      have : q < p := ho
      show L.events.length - 1 - p < L.events.length - 1 - q
      omega
theorem flip_flip (d : Drift) : flip (flip d) = d := by cases d <;> rfl
theorem back_lk {L L' : LogD S} (hj : L'.judges = L.judges.map fun z => (z.1, flip z.2)) (he : L'.events = L.events.reverse) (x y : S) : LkR L' All x y ↔ LkR L All x y := by
  have hj' : L.judges = L'.judges.map fun z => (z.1, flip z.2) := by
    rw [hj, List.map_map]
    conv => lhs; rw [← List.map_id L.judges]
    refine List.map_congr_left fun z _ => ?_
    obtain ⟨a, b⟩ := z
    show (a, b) = (a, flip (flip b))
    rw [flip_flip]
  have he' : L.events = L'.events.reverse := by rw [he, List.reverse_reverse]
  constructor
  · rintro ⟨p, q, _, _, h⟩
    exact ⟨_, _, trivial, trivial, back_link hj' he' h⟩
  · rintro ⟨p, q, _, _, h⟩
    exact ⟨_, _, trivial, trivial, back_link hj he h⟩
/-! ### made to stay -/
theorem stay_lk [DecidableEq S] {L L' : LogD S} {name : S} (hj : L'.judges = L.judges.map fun z => (z.1, if z.1 = name then Drift.stays else z.2)) (he : L'.events = L.events) {x y : S} (h : LkR L All x y) : LkR L' All x y := by
  obtain ⟨p, q, _, _, j, g, h', d, e1, e2, hjd, hg, ho, hs⟩ := h
  have hs' : Same L' j p q := by
    unfold Same NoRes
    rw [he]
    exact hs
  refine ⟨p, q, trivial, trivial, j, g, h', if j = name then .stays else d, by rw [he]; exact e1, by rw [he]; exact e2, ?_, hg, ?_, hs'⟩
  · rw [hj]
    exact List.mem_map.mpr ⟨(j, d), hjd, rfl⟩
  · by_cases e : j = name
    · rw [if_pos e]; trivial
    · rw [if_neg e]; exact ho
end
end RB
/-! OWN FRAMEWORK over the hand layer: data of Lean types represented in the abstract heap (Rp), what a reading evaluates to (EvP), with a ghost heap G: the part of the heap that what is known leans on. -/
namespace FW
open PySem L2

/-! ### heaps -/
def Ex (G H : Hp) : Prop := ∀ a o, G a = some o → H a = some o
theorem Ex.refl (H : Hp) : Ex H H := fun _ _ h => h
theorem Ex.trans {A B C : Hp} (a : Ex A B) (b : Ex B C) : Ex A C := fun x o h => b x o (a x o h)
theorem Ex.free {G H : Hp} (e : Ex G H) {p : Addr} (h : H p = none) : G p = none := by
  cases q : G p with
  | none => rfl
  | some o => rw [e p o q] at h; cases h
theorem Ex.new {H : Hp} {p : Addr} {o : HO} (h : H p = none) : Ex H (upd H p o) := fun a u e => by
  rw [upd_ne (ne_of_none e h)]; exact e
/-- an object that G does not know may change -/
theorem Ex.mut {G H : Hp} {p : Addr} {o : HO} (e : Ex G H) (h : G p = none) : Ex G (upd H p o) := fun a u ha => by
  rw [upd_ne (ne_of_none ha h)]; exact e a u ha
theorem Ex.upd2 {G H : Hp} {p : Addr} {o : HO} (e : Ex G H) : Ex (upd G p o) (upd H p o) := fun a u ha => by
  by_cases h : a = p
  · subst h; rw [upd_same] at ha; rw [upd_same]; exact ha
  · rw [upd_ne h] at ha; rw [upd_ne h]; exact e a u ha
/-- G, and o at p, which H has -/
theorem Ex.put {G H : Hp} {p : Addr} {o : HO} (e : Ex G H) (h : H p = some o) : Ex (upd G p o) H := fun a u ha => by
  by_cases q : a = p
  · subst q; rw [upd_same] at ha; rw [h]; exact ha
  · rw [upd_ne q] at ha; exact e a u ha
def isD : HO → Bool
  | .dK _ => true
  | .dT _ => true
  | _ => false
/-- all that was is as it was, but dicts may be locked or unlocked -/
def Le (G H : Hp) : Prop := ∀ a o, G a = some o → H a = some o ∨ (isD o = true ∧ ∃ ob, H a = some (.frz ob o)) ∨ (∃ ob u, o = .frz ob u ∧ isD u = true ∧ H a = some u)
theorem Ex.le {G H : Hp} (e : Ex G H) : Le G H := fun a o h => .inl (e a o h)
theorem Le.rd {G H : Hp} (e : Le G H) {a : Addr} {o : HO} (hd : isD o = true) (h : Rd G a o) : Rd H a o := by
  rcases h with h | ⟨ob, h⟩
  · rcases e a o h with q | ⟨_, ob, q⟩ | ⟨ob, u, rfl, _, _⟩
    · exact .inl q
    · exact .inr ⟨ob, q⟩
    · cases hd
  · rcases e a _ h with q | ⟨z, _⟩ | ⟨ob', u, z, _, q⟩
    · exact .inr ⟨ob, q⟩
    · cases z
    · cases z; exact .inl q
theorem Le.at {G H : Hp} (e : Le G H) {a : Addr} {o : HO} (hd : isD o = false) (hf : ∀ ob u, o ≠ .frz ob u) (h : G a = some o) : H a = some o := by
  rcases e a o h with q | ⟨z, _⟩ | ⟨ob, u, z, _, _⟩
  · exact q
  · rw [hd] at z; cases z
  · exact absurd z (hf ob u)
theorem Le.lock {G : Hp} {d : Addr} {u : HO} {od : Obj} (h : G d = some u) (hu : isD u = true) : Le G (upd G d (.frz od u)) := fun a o e => by
  by_cases q : a = d
  · subst q
    rw [h] at e; cases e
    exact .inr (.inl ⟨hu, od, upd_same⟩)
  · exact .inl (by rw [upd_ne q]; exact e)
theorem Le.unlock {G : Hp} {d : Addr} {u : HO} {od : Obj} (h : G d = some (.frz od u)) (hu : isD u = true) : Le G (upd G d u) := fun a o e => by
  by_cases q : a = d
  · subst q
    rw [h] at e; cases e
    exact .inr (.inr ⟨od, u, rfl, hu, upd_same⟩)
  · exact .inl (by rw [upd_ne q]; exact e)

/-- from the state (G, H) to (G2, H2): nothing that stood is touched; what G2 has more than G is new -/
structure Nxt (G H G2 H2 : Hp) : Prop where
  g : Ex G G2
  h : Ex H H2
  s : Ex G2 H2
  f : ∀ a o, G2 a = some o → G a = some o ∨ H a = none
section
variable {G H G2 H2 G3 H3 : Hp}
theorem Nxt.refl (e : Ex G H) : Nxt G H G H := ⟨Ex.refl G, Ex.refl H, e, fun _ _ h => .inl h⟩
theorem Nxt.trans (a : Nxt G H G2 H2) (b : Nxt G2 H2 G3 H3) : Nxt G H G3 H3 := ⟨a.g.trans b.g, a.h.trans b.h, b.s, fun x o h => by
  rcases b.f x o h with h | h
  · exact a.f x o h
  · exact .inr (a.h.free h)⟩
/-- a new object, told -/
theorem Nxt.new {p : Addr} {o : HO} (e : Ex G H) (h : H p = none) : Nxt G H (upd G p o) (upd H p o) := ⟨Ex.new (e.free h), Ex.new h, e.upd2, fun a u q => by
  by_cases z : a = p
  · subst z; exact .inr h
  · rw [upd_ne z] at q; exact .inl q⟩
/-- an object of ours, new since H0, is changed: what is told of the rest stands -/
theorem Nxt.mut {l : Addr} {o : HO} (a : Nxt G H G2 H2) (hl : H l = none) (gl : G2 l = none) : Nxt G H G2 (upd H2 l o) := ⟨a.g, a.h.mut hl, a.s.mut gl, a.f⟩
/-- .. and from now on told -/
theorem Nxt.tell {l : Addr} {o : HO} (a : Nxt G H G2 H2) (hl : H l = none) (hl2 : H2 l = some o) (gl : G2 l = none) : Nxt G H (upd G2 l o) H2 :=
  ⟨a.g.trans (Ex.new gl), a.h, a.s.put hl2, fun b u q => by
  by_cases z : b = l
  · subst z; exact .inr hl
  · rw [upd_ne z] at q; exact a.f b u q⟩
/-- what is kept apart stays apart -/
theorem Nxt.apart {l : Addr} {o : HO} (a : Nxt G H G2 H2) (gl : G l = none) (hl : H l = some o) : G2 l = none := by
  cases q : G2 l with
  | none => rfl
  | some u =>
    rcases a.f l u q with h | h
    · rw [gl] at h; cases h
    · rw [hl] at h; cases h
end
/-- l is an object of ours, new since Hs, that G does not tell: o stands there -/
structure Own (Hs G H : Hp) (l : Addr) (o : HO) : Prop where
  s : Hs l = none
  g : G l = none
  h : H l = some o
theorem Own.nxt {Hs G H G2 H2 : Hp} {l : Addr} {o : HO} (a : Own Hs G H l o) (n : Nxt G H G2 H2) : Own Hs G2 H2 l o := ⟨a.s, n.apart a.g a.h, n.h l o a.h⟩
theorem Own.set {Hs G H : Hp} {l : Addr} {o u : HO} (a : Own Hs G H l o) : Own Hs G (upd H l u) l u := ⟨a.s, a.g, upd_same⟩
theorem Own.other {Hs G H : Hp} {l m : Addr} {o u : HO} (a : Own Hs G H l o) (h : l ≠ m) : Own Hs G (upd H m u) l o := ⟨a.s, a.g, by rw [upd_ne h]; exact a.h⟩

/-! ### data in the heap -/
structure Rp (α : Type) where
  is : Hp → V → α → Prop
  mono : ∀ {G G' : Hp} {v : V} {x : α}, Ex G G' → is G v x → is G' v x
theorem Rp.ex {α : Type} (R : Rp α) {G G' : Hp} {v : V} {x : α} (e : Ex G G') (h : R.is G v x) : R.is G' v x := R.mono e h
/-- R's data stand when dicts are locked or unlocked -/
def Lk {α : Type} (R : Rp α) : Prop := ∀ {G G' : Hp} {v : V} {x : α}, Le G G' → R.is G v x → R.is G' v x
/-- R's data stand when an object that is no list, no tuple, no instance is no longer told -/
def del (G : Hp) (l : Addr) : Hp := fun a => if a = l then none else G a
def Off {α : Type} (R : Rp α) : Prop := ∀ {G : Hp} {l : Addr} {u : HO} {v : V} {x : α}, G l = some u → isD u = true → R.is G v x → R.is (del G l) v x
def rI : Rp Int := ⟨fun _ v x => v = .int x, fun _ h => h⟩
def rN : Rp Nat := ⟨fun _ v x => v = .int (x : Int), fun _ h => h⟩
def rS : Rp Str := ⟨fun _ v x => v = .str x, fun _ h => h⟩
def rB : Rp Bool := ⟨fun _ v x => v = .bl x, fun _ h => h⟩
def rU : Rp Unit := ⟨fun _ v _ => v = .non, fun _ h => h⟩
def rV : Rp V := ⟨fun _ v x => v = x, fun _ h => h⟩
/-- None, or a thing that is not None -/
def rO {α : Type} (R : Rp α) : Rp (Option α) := ⟨fun G v x => match x with
  | none => v = .non
  | some y => v ≠ .non ∧ R.is G v y, fun {G G' v x} e h => by
    cases x with
    | none => exact h
    | some y => exact ⟨h.1, R.mono e h.2⟩⟩
abbrev Pd {α β : Type} (F : α → β → Prop) : List α → List β → Prop := Paired F
theorem pd_mono {α β : Type} {F G : α → β → Prop} (h : ∀ a b, F a b → G a b) : ∀ {xs : List α} {ys : List β}, Pd F xs ys → Pd G xs ys
  | _, _, .nil => .nil
  | _, _, .cons a t => .cons (h _ _ a) (pd_mono h t)
theorem pd_len {α β : Type} {F : α → β → Prop} : ∀ {xs : List α} {ys : List β}, Pd F xs ys → xs.length = ys.length
  | _, _, .nil => rfl
  | _, _, .cons _ t => congrArg (· + 1) (pd_len t)
theorem pd_get {α β : Type} {F : α → β → Prop} : ∀ {xs : List α} {ys : List β} {i : Nat} {y : β}, Pd F xs ys → ys[i]? = some y → ∃ x, xs[i]? = some x ∧ F x y
  | _, _, _, _, .nil, h => by simp at h
  | _, _, 0, _, .cons a t, h => by
    cases h; exact ⟨_, rfl, a⟩
  | _, _, i + 1, y, .cons a t, h => by
    obtain ⟨x, e, f⟩ := pd_get (i := i) (y := y) t (by simpa using h)
    exact ⟨x, by simpa using e, f⟩
theorem pd_app {α β : Type} {F : α → β → Prop} : ∀ {xs xs' : List α} {ys ys' : List β}, Pd F xs ys → Pd F xs' ys' → Pd F (xs ++ xs') (ys ++ ys')
  | _, _, _, _, .nil, h => h
  | _, _, _, _, .cons a t, h => .cons a (pd_app t h)
theorem pd_snoc {α β : Type} {F : α → β → Prop} {xs : List α} {ys : List β} {x : α} {y : β} (h : Pd F xs ys) (k : F x y) : Pd F (xs ++ [x]) (ys ++ [y]) := pd_app h (.cons k .nil)
theorem pd_take {α β : Type} {F : α → β → Prop} : ∀ {xs : List α} {ys : List β} (n : Nat), Pd F xs ys → Pd F (xs.take n) (ys.take n)
  | _, _, 0, _ => .nil
  | _, _, _ + 1, .nil => .nil
  | _, _, n + 1, .cons a t => .cons a (pd_take n t)
theorem pd_drop {α β : Type} {F : α → β → Prop} : ∀ {xs : List α} {ys : List β} (n : Nat), Pd F xs ys → Pd F (xs.drop n) (ys.drop n)
  | _, _, 0, h => h
  | _, _, _ + 1, .nil => .nil
  | _, _, n + 1, .cons _ t => pd_drop n t
theorem pd_rev {α β : Type} {F : α → β → Prop} : ∀ {xs : List α} {ys : List β}, Pd F xs ys → Pd F xs.reverse ys.reverse
  | _, _, .nil => .nil
  | _, _, .cons a t => by
    rw [List.reverse_cons, List.reverse_cons]
    exact pd_snoc (pd_rev t) a
theorem pd_mem {α β : Type} {F : α → β → Prop} : ∀ {xs : List α} {ys : List β} {x : α}, Pd F xs ys → x ∈ xs → ∃ y, y ∈ ys ∧ F x y
  | _, _, _, .nil, h => by cases h
  | _, _, _, .cons a t, h => by
    rcases List.mem_cons.mp h with rfl | h
    · exact ⟨_, List.mem_cons_self, a⟩
    · obtain ⟨y, e, f⟩ := pd_mem t h
      exact ⟨y, List.mem_cons_of_mem _ e, f⟩
/-- a list -/
def rL {α : Type} (R : Rp α) : Rp (List α) := ⟨fun G v xs => ∃ a vs, v = .ref a ∧ G a = some (.lst vs) ∧ Pd (R.is G) vs xs, fun e h => by
  obtain ⟨a, vs, rfl, h1, h2⟩ := h
  exact ⟨a, vs, rfl, e a _ h1, pd_mono (fun _ _ => R.mono e) h2⟩⟩
/-- tuples -/
def rT2 {α β : Type} (R : Rp α) (S : Rp β) : Rp (α × β) := ⟨fun G v x => ∃ a v1 v2, v = .ref a ∧ G a = some (.tup [v1, v2]) ∧ R.is G v1 x.1 ∧ S.is G v2 x.2, fun e h => by
  obtain ⟨a, v1, v2, rfl, h1, h2, h3⟩ := h
  exact ⟨a, v1, v2, rfl, e a _ h1, R.mono e h2, S.mono e h3⟩⟩
def rT3 {α β γ : Type} (R : Rp α) (S : Rp β) (T : Rp γ) : Rp (α × β × γ) := ⟨fun G v x => ∃ a v1 v2 v3, v = .ref a ∧ G a = some (.tup [v1, v2, v3]) ∧ R.is G v1 x.1 ∧ S.is G v2 x.2.1 ∧ T.is G v3 x.2.2, fun e h => by
  obtain ⟨a, v1, v2, v3, rfl, h1, h2, h3, h4⟩ := h
  exact ⟨a, v1, v2, v3, rfl, e a _ h1, R.mono e h2, S.mono e h3, T.mono e h4⟩⟩
def rT4 {α β γ δ : Type} (R : Rp α) (S : Rp β) (T : Rp γ) (U : Rp δ) : Rp (α × β × γ × δ) := ⟨fun G v x => ∃ a v1 v2 v3 v4, v = .ref a ∧ G a = some (.tup [v1, v2, v3, v4]) ∧ R.is G v1 x.1 ∧ S.is G v2 x.2.1 ∧ T.is G v3 x.2.2.1 ∧ U.is G v4 x.2.2.2, fun e h => by
  obtain ⟨a, v1, v2, v3, v4, rfl, h1, h2, h3, h4, h5⟩ := h
  exact ⟨a, v1, v2, v3, v4, rfl, e a _ h1, R.mono e h2, S.mono e h3, T.mono e h4, U.mono e h5⟩⟩
/-- the entries of a dict: kf tells the key -/
abbrev Ent {κ α τ : Type} (kf : κ → τ) (R : Rp α) (G : Hp) : τ × V → κ × α → Prop := fun p q => p.1 = kf q.1 ∧ R.is G p.2 q.2
/-- a dict, not locked -/
def rD {κ α : Type} (kf : κ → Key) (R : Rp α) : Rp (List (κ × α)) := ⟨fun G v xs => ∃ a kvs, v = .ref a ∧ G a = some (.dK kvs) ∧ Pd (Ent kf R G) kvs xs, fun e h => by
  obtain ⟨a, kvs, rfl, h1, h2⟩ := h
  exact ⟨a, kvs, rfl, e a _ h1, pd_mono (fun _ _ h => ⟨h.1, R.mono e h.2⟩) h2⟩⟩
theorem Ex.rd {G H : Hp} (e : Ex G H) {a : Addr} {o : HO} (h : Rd G a o) : Rd H a o := by
  rcases h with h | ⟨ob, h⟩
  · exact .inl (e a o h)
  · exact .inr ⟨ob, e a _ h⟩
/-- a dict that is read, locked or not -/
def rDr {κ α : Type} (kf : κ → Key) (R : Rp α) : Rp (List (κ × α)) := ⟨fun G v xs => ∃ a kvs, v = .ref a ∧ Rd G a (.dK kvs) ∧ Pd (Ent kf R G) kvs xs, fun e h => by
  obtain ⟨a, kvs, rfl, h1, h2⟩ := h
  exact ⟨a, kvs, rfl, e.rd h1, pd_mono (fun _ _ h => ⟨h.1, R.mono e h.2⟩) h2⟩⟩
theorem rD_r {κ α : Type} {kf : κ → Key} {R : Rp α} {G : Hp} {v : V} {xs : List (κ × α)} (h : (rD kf R).is G v xs) : (rDr kf R).is G v xs := by
  obtain ⟨a, kvs, e, h1, h2⟩ := h
  exact ⟨a, kvs, e, .inl h1, h2⟩
/-- a dict with tuples as keys -/
def rDT {κ α : Type} (kf : κ → List Key) (R : Rp α) : Rp (List (κ × α)) := ⟨fun G v xs => ∃ a kvs, v = .ref a ∧ G a = some (.dT kvs) ∧ Pd (Ent kf R G) kvs xs, fun e h => by
  obtain ⟨a, kvs, rfl, h1, h2⟩ := h
  exact ⟨a, kvs, rfl, e a _ h1, pd_mono (fun _ _ h => ⟨h.1, R.mono e h.2⟩) h2⟩⟩
/-! locking -/
section
variable {α β γ δ : Type} {R : Rp α} {S : Rp β} {T : Rp γ} {U : Rp δ}
theorem lk_I : Lk rI := fun _ h => h
theorem lk_N : Lk rN := fun _ h => h
theorem lk_S : Lk rS := fun _ h => h
theorem lk_B : Lk rB := fun _ h => h
theorem lk_U : Lk rU := fun _ h => h
theorem lk_O (k : Lk R) : Lk (rO R) := fun {G G' v x} e h => by
  cases x with
  | none => exact h
  | some y => exact ⟨h.1, k e h.2⟩
theorem lk_L (k : Lk R) : Lk (rL R) := fun e h => by
  obtain ⟨a, vs, rfl, h1, h2⟩ := h
  exact ⟨a, vs, rfl, e.at rfl (fun _ _ z => nomatch z) h1, pd_mono (fun _ _ => k e) h2⟩
theorem lk_T2 (k : Lk R) (k2 : Lk S) : Lk (rT2 R S) := fun e h => by
  obtain ⟨a, v1, v2, rfl, h1, h2, h3⟩ := h
  exact ⟨a, v1, v2, rfl, e.at rfl (fun _ _ z => nomatch z) h1, k e h2, k2 e h3⟩
theorem lk_T3 (k : Lk R) (k2 : Lk S) (k3 : Lk T) : Lk (rT3 R S T) := fun e h => by
  obtain ⟨a, v1, v2, v3, rfl, h1, h2, h3, h4⟩ := h
  exact ⟨a, v1, v2, v3, rfl, e.at rfl (fun _ _ z => nomatch z) h1, k e h2, k2 e h3, k3 e h4⟩
theorem lk_Dr {κ : Type} {kf : κ → Key} (k : Lk R) : Lk (rDr kf R) := fun e h => by
  obtain ⟨a, kvs, rfl, h1, h2⟩ := h
  exact ⟨a, kvs, rfl, e.rd rfl h1, pd_mono (fun _ _ h => ⟨h.1, k e h.2⟩) h2⟩
theorem del_ne {G : Hp} {a l : Addr} (h : a ≠ l) : del G l a = G a := by unfold del; rw [if_neg h]
theorem del_same {G : Hp} {l : Addr} : del G l l = none := by unfold del; rw [if_pos rfl]
theorem off_at {G : Hp} {a l : Addr} {o u : HO} (hl : G l = some u) (hu : isD u = true) (h : G a = some o) (ho : isD o = false) : del G l a = some o := by
  rw [del_ne (fun e => by subst e; rw [h] at hl; cases hl; rw [ho] at hu; cases hu)]
  exact h
theorem off_I : Off rI := fun _ _ h => h
theorem off_N : Off rN := fun _ _ h => h
theorem off_S : Off rS := fun _ _ h => h
theorem off_B : Off rB := fun _ _ h => h
theorem off_L (k : Off R) : Off (rL R) := fun e hu h => by
  obtain ⟨a, vs, rfl, h1, h2⟩ := h
  exact ⟨a, vs, rfl, off_at e hu h1 rfl, pd_mono (fun _ _ => k e hu) h2⟩
theorem off_T2 (k : Off R) (k2 : Off S) : Off (rT2 R S) := fun e hu h => by
  obtain ⟨a, v1, v2, rfl, h1, h2, h3⟩ := h
  exact ⟨a, v1, v2, rfl, off_at e hu h1 rfl, k e hu h2, k2 e hu h3⟩
end
def kS : Str → Key := Sum.inr
def kN : Nat → Key := fun n => Sum.inl (n : Int)
def kSS : Str × Str → List Key := fun p => [Sum.inr p.1, Sum.inr p.2]
def kSI : Str × Int → List Key := fun p => [Sum.inr p.1, Sum.inl p.2]

/-! ### what evaluates to what -/
section
variable {α β γ δ : Type}
def EvP (R : Rp α) (te : TE) (σ : L2.St) (G : Hp) (P : α → Prop) : Prop := ∀ H, Ex G H → ∀ Q : VK, (∀ v G2 H2 x, Nxt G H G2 H2 → R.is G2 v x → P x → Q v H2) → te σ H Q
abbrev EvD (R : Rp α) (te : TE) (σ : L2.St) (G : Hp) (x : α) : Prop := EvP R te σ G (fun y => y = x)
def EvT (tt : TT) (σ : L2.St) (G : Hp) (b : Bool) : Prop := ∀ H, Ex G H → ∀ Q : Bool → Hp → Prop, (∀ G2 H2, Nxt G H G2 H2 → Q b H2) → tt σ H Q
/-- a call by values -/
def SpP (R : Rp α) (sp : Sp) (vs : List V) (G : Hp) (P : α → Prop) : Prop := ∀ H, Ex G H → ∀ (Q : VK) (E : XK), (∀ v G2 H2 x, Nxt G H G2 H2 → R.is G2 v x → P x → Q v H2) → sp vs H Q E
/-- a built-in by values -/
def CbP (R : Rp α) (r : List V → Hp → VK → Prop) (vs : List V) (G : Hp) (P : α → Prop) : Prop := ∀ H, Ex G H → ∀ Q : VK, (∀ v G2 H2 x, Nxt G H G2 H2 → R.is G2 v x → P x → Q v H2) → r vs H Q
/-- an operator by values -/
def RvP (R : Rp α) (r : R2) (x y : V) (G : Hp) (P : α → Prop) : Prop := ∀ H, Ex G H → ∀ Q : VK, (∀ v G2 H2 z, Nxt G H G2 H2 → R.is G2 v z → P z → Q v H2) → r x y H Q

/-- G and what is new in G2 -/
def join (G G2 : Hp) : Hp := fun a => match G a with
  | some o => some o
  | none => G2 a
theorem nxt_join {G G' H G2 H2 : Hp} (e : Ex G G') (e' : Ex G' H) (n : Nxt G H G2 H2) : Nxt G' H (join G' G2) H2 ∧ Ex G2 (join G' G2) := by
  refine ⟨⟨fun a o h => ?_, n.h, fun a o h => ?_, fun a o h => ?_⟩, fun a o h => ?_⟩
  · unfold join; rw [h]
  · unfold join at h
    cases q : G' a with
    | some u => rw [q] at h; cases h; exact n.h a o (e' a o q)
    | none => rw [q] at h; exact n.s a o h
  · unfold join at h
    cases q : G' a with
    | some u => rw [q] at h; exact .inl h
    | none =>
      rw [q] at h
      rcases n.f a o h with z | z
      · rw [e a o z] at q; cases q
      · exact .inr z
  · unfold join
    cases q : G' a with
    | none => exact h
    | some u =>
      rcases n.f a o h with z | z
      · rw [e a o z] at q; rw [← q]
      · rw [e' a u q] at z; cases z
theorem EvP.mono {R : Rp α} {te : TE} {σ : L2.St} {G G' : Hp} {P : α → Prop} (e : Ex G G') (h : EvP R te σ G P) : EvP R te σ G' P := fun H e' Q q =>
  h H (e.trans e') Q fun v G2 H2 x n r p => by
    obtain ⟨n', j⟩ := nxt_join e e' n
    exact q v _ H2 x n' (R.ex j r) p
theorem EvT.mono {tt : TT} {σ : L2.St} {G G' : Hp} {b : Bool} (e : Ex G G') (h : EvT tt σ G b) : EvT tt σ G' b := fun H e' Q q =>
  h H (e.trans e') Q fun G2 H2 n => q _ H2 (nxt_join e e' n).1
theorem SpP.mono {R : Rp α} {sp : Sp} {vs : List V} {G G' : Hp} {P : α → Prop} (e : Ex G G') (h : SpP R sp vs G P) : SpP R sp vs G' P := fun H e' Q E q =>
  h H (e.trans e') Q E fun v G2 H2 x n r p => by
    obtain ⟨n', j⟩ := nxt_join e e' n
    exact q v _ H2 x n' (R.ex j r) p
theorem EvP.imp {R : Rp α} {te : TE} {σ : L2.St} {G : Hp} {P P' : α → Prop} (h : EvP R te σ G P) (k : ∀ x, P x → P' x) : EvP R te σ G P' := fun H e Q q =>
  h H e Q fun v G2 H2 x n r p => q v G2 H2 x n r (k x p)
/-- another view of what has come -/
theorem EvP.as {R : Rp α} {S : Rp β} {te : TE} {σ : L2.St} {G : Hp} {P : α → Prop} {P' : β → Prop} (h : EvP R te σ G P) (k : ∀ G2 v x, Ex G G2 → R.is G2 v x → P x → ∃ y, S.is G2 v y ∧ P' y) : EvP S te σ G P' := fun H e Q q =>
  h H e Q fun v G2 H2 x n r p => by
    obtain ⟨y, r', p'⟩ := k G2 v x n.g r p
    exact q v G2 H2 y n r' p'
section
variable {R : Rp α} {S : Rp β} {T : Rp γ} {U : Rp δ} {σ : L2.St} {G : Hp} {ta tb tc td : TE} {t u : TT} {PA : α → Prop} {PB : β → Prop} {PC : γ → Prop} {PD : δ → Prop} {r : R2}
/-! ### expressions -/
theorem ev_var {i : Nat} {v : V} {x : α} (h : σ[i]? = some (some v)) (hr : R.is G v x) : EvD R (tVar i) σ G x := fun H e Q q => ⟨v, h, q v G H x (Nxt.refl e) hr rfl⟩
theorem ev_c {v : V} {x : α} (hr : R.is G v x) : EvD R (tC v) σ G x := fun H e Q q => q v G H x (Nxt.refl e) hr rfl
theorem ev_op {P : γ → Prop} (ha : EvP R ta σ G PA) (hb : EvP S tb σ G PB) (hr : ∀ G2 v x w y, Ex G G2 → R.is G2 v x → PA x → S.is G2 w y → PB y → RvP T r v w G2 P) : EvP T (tOp r ta tb) σ G P := fun H e Q q =>
  ha H e _ fun v G2 H2 x n1 r1 p1 => hb.mono n1.g H2 n1.s _ fun w G3 H3 y n2 r2 p2 =>
    hr G3 v x w y (n1.g.trans n2.g) (R.ex n2.g r1) p1 r2 p2 H3 n2.s Q fun z G4 H4 c n3 r3 p3 => q z G4 H4 c ((n1.trans n2).trans n3) r3 p3
theorem ev_if {P : α → Prop} {b : Bool} (h : EvT t σ G b) (h1 : b = true → EvP R ta σ G P) (h2 : b = false → EvP R tb σ G P) : EvP R (tIf t ta tb) σ G P := fun H e Q q => h H e _ fun G2 H2 n => by
  cases b with
  | true =>
    show ta σ H2 Q
    exact (h1 rfl).mono n.g H2 n.s Q fun v G3 H3 x n2 => q v G3 H3 x (n.trans n2)
  | false =>
    show tb σ H2 Q
    exact (h2 rfl).mono n.g H2 n.s Q fun v G3 H3 x n2 => q v G3 H3 x (n.trans n2)
theorem ev_andV {a b : Bool} (h1 : EvD rB ta σ G a) (h2 : a = true → EvD rB tb σ G b) : EvD rB (tAndV ta tb) σ G (a && b) := fun H e Q q => h1 H e _ fun v G2 H2 x n rx px => by
  subst px
  refine ⟨x, rx, ?_⟩
  cases x with
  | true =>
    show tb σ H2 Q
    exact (h2 rfl).mono n.g H2 n.s Q fun v G3 H3 x n2 r2 p2 => q v G3 H3 x (n.trans n2) r2 p2
  | false => exact q _ G2 H2 false n rfl rfl
theorem ev_orV {a b : Bool} (h1 : EvD rB ta σ G a) (h2 : a = false → EvD rB tb σ G b) : EvD rB (tOrV ta tb) σ G (a || b) := fun H e Q q => h1 H e _ fun v G2 H2 x n rx px => by
  subst px
  refine ⟨x, rx, ?_⟩
  cases x with
  | true => exact q _ G2 H2 true n rfl rfl
  | false =>
    show tb σ H2 Q
    exact (h2 rfl).mono n.g H2 n.s Q fun v G3 H3 x n2 r2 p2 => q v G3 H3 x (n.trans n2) r2 p2
theorem ev_notV {a : Bool} (h1 : EvD rB ta σ G a) : EvD rB (tNotV ta) σ G (!a) := fun H e Q q => h1 H e _ fun v G2 H2 x n rx px => by
  subst px
  exact ⟨x, rx, q _ G2 H2 _ n rfl rfl⟩
theorem ev_val {x y : α} (h : EvD R ta σ G x) (e : x = y) : EvD R ta σ G y := e ▸ h

/-! ### operators by values -/
theorem rv_I0 {g : Int → Int → V} {i j : Int} {z : γ} (h : T.is G (g i j) z) : RvP T (rI0 g) (.int i) (.int j) G (fun y => y = z) := fun H e Q q => ⟨i, j, rfl, rfl, q _ G H z (Nxt.refl e) h rfl⟩
theorem rv_I {C : Int → Int → Prop} {g : Int → Int → V} {i j : Int} {z : γ} (hc : C i j) (h : T.is G (g i j) z) : RvP T (L2.rI C g) (.int i) (.int j) G (fun y => y = z) := fun H e Q q => ⟨i, j, rfl, rfl, hc, q _ G H z (Nxt.refl e) h rfl⟩
theorem ev_I0 {g : Int → Int → V} {i j : Int} {z : γ} (ha : EvD FW.rI ta σ G i) (hb : EvD FW.rI tb σ G j) (h : ∀ G2, T.is G2 (g i j) z) : EvD T (tOp (rI0 g) ta tb) σ G z :=
  ev_op ha hb fun G2 v x w y e r1 p1 r2 p2 => by
    subst p1 p2
    cases r1; cases r2
    exact rv_I0 (h G2)
theorem ev_Ic {C : Int → Int → Prop} {g : Int → Int → V} {i j : Int} {z : γ} (ha : EvD FW.rI ta σ G i) (hb : EvD FW.rI tb σ G j) (hc : C i j) (h : ∀ G2, T.is G2 (g i j) z) : EvD T (tOp (L2.rI C g) ta tb) σ G z :=
  ev_op ha hb fun G2 v x w y e r1 p1 r2 p2 => by
    subst p1 p2
    cases r1; cases r2
    exact rv_I hc (h G2)
theorem ev_N {n : Nat} (h : EvD rN ta σ G n) : EvD FW.rI ta σ G (n : Int) := h.as fun G2 v x e hr hp => ⟨(x : Int), hr, by rw [hp]⟩
theorem ev_toN {n : Nat} {i : Int} (h : EvD FW.rI ta σ G i) (e : i = (n : Int)) : EvD rN ta σ G n := h.as fun G2 v x _ hr hp => ⟨n, by subst hp; subst e; exact hr, rfl⟩
theorem ev_eqS {x y : Str} (ha : EvD rS ta σ G x) (hb : EvD rS tb σ G y) : EvD rB (tOp rEq ta tb) σ G (decide (x = y)) :=
  ev_op ha hb fun G2 v x w y e r1 p1 r2 p2 H e2 Q q => by
    subst p1 p2
    cases r1; cases r2
    refine ⟨rfl, q _ G2 H _ (Nxt.refl e2) rfl ?_⟩
    by_cases h : x = y
    · subst h; rw [decide_eq_true rfl, decide_eq_true rfl]
    · rw [decide_eq_false h, decide_eq_false fun z => h (V.str.inj z)]
theorem ev_neS {x y : Str} (ha : EvD rS ta σ G x) (hb : EvD rS tb σ G y) : EvD rB (tOp rNe ta tb) σ G (!decide (x = y)) :=
  ev_op ha hb fun G2 v x w y e r1 p1 r2 p2 H e2 Q q => by
    subst p1 p2
    cases r1; cases r2
    refine ⟨rfl, q _ G2 H _ (Nxt.refl e2) rfl ?_⟩
    by_cases h : x = y
    · subst h; rw [decide_eq_true rfl, decide_eq_true rfl]
    · rw [decide_eq_false h, decide_eq_false fun z => h (V.str.inj z)]
theorem ev_eqI {x y : Int} (ha : EvD FW.rI ta σ G x) (hb : EvD FW.rI tb σ G y) : EvD rB (tOp rEq ta tb) σ G (decide (x = y)) :=
  ev_op ha hb fun G2 v x w y e r1 p1 r2 p2 H e2 Q q => by
    subst p1 p2
    cases r1; cases r2
    refine ⟨rfl, q _ G2 H _ (Nxt.refl e2) rfl ?_⟩
    by_cases h : x = y
    · subst h; rw [decide_eq_true rfl, decide_eq_true rfl]
    · rw [decide_eq_false h, decide_eq_false fun z => h (V.int.inj z)]
theorem ev_neI {x y : Int} (ha : EvD FW.rI ta σ G x) (hb : EvD FW.rI tb σ G y) : EvD rB (tOp rNe ta tb) σ G (!decide (x = y)) :=
  ev_op ha hb fun G2 v x w y e r1 p1 r2 p2 H e2 Q q => by
    subst p1 p2
    cases r1; cases r2
    refine ⟨rfl, q _ G2 H _ (Nxt.refl e2) rfl ?_⟩
    by_cases h : x = y
    · subst h; rw [decide_eq_true rfl, decide_eq_true rfl]
    · rw [decide_eq_false h, decide_eq_false fun z => h (V.int.inj z)]
theorem ev_eqB {x y : Bool} (ha : EvD rB ta σ G x) (hb : EvD rB tb σ G y) : EvD rB (tOp rEq ta tb) σ G (x == y) :=
  ev_op ha hb fun G2 v x w y e r1 p1 r2 p2 H e2 Q q => by
    subst p1 p2
    cases r1; cases r2
    refine ⟨rfl, q _ G2 H _ (Nxt.refl e2) rfl ?_⟩
    cases x <;> cases y <;> decide
theorem ev_neB {x y : Bool} (ha : EvD rB ta σ G x) (hb : EvD rB tb σ G y) : EvD rB (tOp rNe ta tb) σ G (x != y) :=
  ev_op ha hb fun G2 v x w y e r1 p1 r2 p2 H e2 Q q => by
    subst p1 p2
    cases r1; cases r2
    refine ⟨rfl, q _ G2 H _ (Nxt.refl e2) rfl ?_⟩
    cases x <;> cases y <;> decide

/-! ### tests -/
theorem et_test {b : Bool} (h : EvD rB ta σ G b) : EvT (tTest ta) σ G b := fun H e Q q => h H e _ fun v G2 H2 x n rx px => by
  subst px
  exact ⟨x, rx, q G2 H2 n⟩
theorem et_B {b : Bool} (h : EvD rB ta σ G b) : EvT (tB ta) σ G b := fun H e Q q => h H e _ fun v G2 H2 x n rx px => by
  subst px
  exact ⟨x, rx, q G2 H2 n⟩
theorem et_and {a b : Bool} (h1 : EvT t σ G a) (h2 : a = true → EvT u σ G b) : EvT (tAnd t u) σ G (a && b) := fun H e Q q => h1 H e _ fun G2 H2 n => by
  cases a with
  | true =>
    show u σ H2 Q
    exact (h2 rfl).mono n.g H2 n.s Q fun G3 H3 n2 => q G3 H3 (n.trans n2)
  | false =>
    show Q false H2
    exact q G2 H2 n
theorem et_or {a b : Bool} (h1 : EvT t σ G a) (h2 : a = false → EvT u σ G b) : EvT (tOr t u) σ G (a || b) := fun H e Q q => h1 H e _ fun G2 H2 n => by
  cases a with
  | true =>
    show Q true H2
    exact q G2 H2 n
  | false =>
    show u σ H2 Q
    exact (h2 rfl).mono n.g H2 n.s Q fun G3 H3 n2 => q G3 H3 (n.trans n2)
theorem et_not {a : Bool} (h1 : EvT t σ G a) : EvT (tNot t) σ G (!a) := fun H e Q q => h1 H e _ fun G2 H2 n => q G2 H2 n
theorem et_val {a b : Bool} (h : EvT t σ G a) (e : a = b) : EvT t σ G b := e ▸ h
/-- truth of a list -/
theorem et_list {K : PySem.W.Frag} {xs : List α} (h : EvD (rL R) ta σ G xs) : EvT (fun σ H Q => ta σ H fun x H' => ∃ k, TruV K x H' k ∧ Q k H') σ G (!xs.isEmpty) := fun H e Q q => h H e _ fun v G2 H2 x n rx px => by
  subst px
  obtain ⟨a, vs, rfl, ha, hp⟩ := rx
  refine ⟨!vs.isEmpty, .inl ⟨vs, SqL.of (n.s a _ ha), rfl⟩, ?_⟩
  have e1 : vs.isEmpty = x.isEmpty := by cases hp <;> rfl
  rw [e1]
  exact q G2 H2 n
end
end
end FW
/-! OWN FRAMEWORK, part 2: calls, displays, subscripts, what is walked, comprehensions, statements. -/
namespace FW
open PySem L2
section
variable {α β γ δ ε : Type} {R : Rp α} {S : Rp β} {T : Rp γ} {U : Rp δ} {Z : Rp ε} {σ : L2.St} {G : Hp} {ta tb tc td : TE} {t u : TT} {PA : α → Prop} {PB : β → Prop} {PC : γ → Prop} {PD : δ → Prop} {P : ε → Prop} {K : PySem.W.Frag}

/-! ### calls -/
theorem ev_call1 {sp : Sp} {E : XK} (h1 : EvP R ta σ G PA) (hs : ∀ G2 v x, Ex G G2 → R.is G2 v x → PA x → SpP Z sp [v] G2 P) : EvP Z (tCall sp [] E (tCons ta tNil)) σ G P := fun H e Q q =>
  h1 H e _ fun v G2 H2 x n r p => hs G2 v x n.g r p H2 n.s Q E fun w G3 H3 y n2 r2 p2 => q w G3 H3 y (n.trans n2) r2 p2
theorem ev_call2 {sp : Sp} {E : XK} (h1 : EvP R ta σ G PA) (h2 : EvP S tb σ G PB) (hs : ∀ G2 v x w y, Ex G G2 → R.is G2 v x → PA x → S.is G2 w y → PB y → SpP Z sp [v, w] G2 P) : EvP Z (tCall sp [] E (tCons ta (tCons tb tNil))) σ G P := fun H e Q q =>
  h1 H e _ fun v G2 H2 x n r p => h2.mono n.g H2 n.s _ fun w G3 H3 y n2 r2 p2 => hs G3 v x w y (n.g.trans n2.g) (R.ex n2.g r) p r2 p2 H3 n2.s Q E fun z G4 H4 c n3 r3 p3 => q z G4 H4 c ((n.trans n2).trans n3) r3 p3
theorem ev_call3 {sp : Sp} {E : XK} (h1 : EvP R ta σ G PA) (h2 : EvP S tb σ G PB) (h3 : EvP T tc σ G PC)
    (hs : ∀ G2 v x w y u z, Ex G G2 → R.is G2 v x → PA x → S.is G2 w y → PB y → T.is G2 u z → PC z → SpP Z sp [v, w, u] G2 P) : EvP Z (tCall sp [] E (tCons ta (tCons tb (tCons tc tNil)))) σ G P := fun H e Q q =>
  h1 H e _ fun v G2 H2 x n r p => h2.mono n.g H2 n.s _ fun w G3 H3 y n2 r2 p2 => h3.mono (n.g.trans n2.g) H3 n2.s _ fun u G4 H4 z n3 r3 p3 =>
    hs G4 v x w y u z ((n.g.trans n2.g).trans n3.g) (R.ex (n2.g.trans n3.g) r) p (S.ex n3.g r2) p2 r3 p3 H4 n3.s Q E fun c G5 H5 d n4 r4 p4 => q c G5 H5 d (((n.trans n2).trans n3).trans n4) r4 p4
theorem ev_call4 {sp : Sp} {E : XK} (h1 : EvP R ta σ G PA) (h2 : EvP S tb σ G PB) (h3 : EvP T tc σ G PC) (h4 : EvP U td σ G PD)
    (hs : ∀ G2 v x w y u z a b, Ex G G2 → R.is G2 v x → PA x → S.is G2 w y → PB y → T.is G2 u z → PC z → U.is G2 a b → PD b → SpP Z sp [v, w, u, a] G2 P) : EvP Z (tCall sp [] E (tCons ta (tCons tb (tCons tc (tCons td tNil))))) σ G P := fun H e Q q =>
  h1 H e _ fun v G2 H2 x n r p => h2.mono n.g H2 n.s _ fun w G3 H3 y n2 r2 p2 => h3.mono (n.g.trans n2.g) H3 n2.s _ fun u G4 H4 z n3 r3 p3 => h4.mono ((n.g.trans n2.g).trans n3.g) H4 n3.s _ fun a G5 H5 b n4 r4 p4 =>
    hs G5 v x w y u z a b (((n.g.trans n2.g).trans n3.g).trans n4.g) (R.ex ((n2.g.trans n3.g).trans n4.g) r) p (S.ex (n3.g.trans n4.g) r2) p2 (T.ex n4.g r3) p3 r4 p4 H5 n4.s Q E fun c G6 H6 d n5 r5 p5 => q c G6 H6 d ((((n.trans n2).trans n3).trans n4).trans n5) r5 p5
/-- R tells instances of C, none of whose attributes is called m -/
def InsOf (R : Rp α) (C : Addr) (m : Str) : Prop := ∀ G v x, R.is G v x → ∃ a dx fs, v = .ref a ∧ G a = some (.ins C dx fs) ∧ fs.lookup m = none
theorem ev_meth0 {C : Addr} {m : Str} {sp : Sp} {E : XK} (hi : InsOf R C m) (h1 : EvP R ta σ G PA) (hs : ∀ G2 v x, Ex G G2 → R.is G2 v x → PA x → SpP Z sp [v] G2 P) : EvP Z (tMeth C m sp [] E ta tNil) σ G P := fun H e Q q =>
  h1 H e _ fun v G2 H2 x n r p => by
    obtain ⟨a, dx, fs, rfl, ha, hl⟩ := hi G2 v x r
    exact ⟨a, dx, fs, rfl, n.s a _ ha, hl, hs G2 _ x n.g r p H2 n.s Q E fun w G3 H3 y n2 r2 p2 => q w G3 H3 y (n.trans n2) r2 p2⟩
theorem ev_meth1 {C : Addr} {m : Str} {sp : Sp} {E : XK} (hi : InsOf R C m) (h1 : EvP R ta σ G PA) (h2 : EvP S tb σ G PB) (hs : ∀ G2 v x w y, Ex G G2 → R.is G2 v x → PA x → S.is G2 w y → PB y → SpP Z sp [v, w] G2 P) :
    EvP Z (tMeth C m sp [] E ta (tCons tb tNil)) σ G P := fun H e Q q =>
  h1 H e _ fun v G2 H2 x n r p => by
    obtain ⟨a, dx, fs, rfl, ha, hl⟩ := hi G2 v x r
    exact ⟨a, dx, fs, rfl, n.s a _ ha, hl, h2.mono n.g H2 n.s _ fun w G3 H3 y n2 r2 p2 => hs G3 _ x w y (n.g.trans n2.g) (R.ex n2.g r) p r2 p2 H3 n2.s Q E fun z G4 H4 c n3 r3 p3 => q z G4 H4 c ((n.trans n2).trans n3) r3 p3⟩
theorem ev_meth2 {C : Addr} {m : Str} {sp : Sp} {E : XK} (hi : InsOf R C m) (h1 : EvP R ta σ G PA) (h2 : EvP S tb σ G PB) (h3 : EvP T tc σ G PC)
    (hs : ∀ G2 v x w y u z, Ex G G2 → R.is G2 v x → PA x → S.is G2 w y → PB y → T.is G2 u z → PC z → SpP Z sp [v, w, u] G2 P) :
    EvP Z (tMeth C m sp [] E ta (tCons tb (tCons tc tNil))) σ G P := fun H e Q q =>
  h1 H e _ fun v G2 H2 x n r p => by
    obtain ⟨a, dx, fs, rfl, ha, hl⟩ := hi G2 v x r
    exact ⟨a, dx, fs, rfl, n.s a _ ha, hl, h2.mono n.g H2 n.s _ fun w G3 H3 y n2 r2 p2 => h3.mono (n.g.trans n2.g) H3 n2.s _ fun u G4 H4 z n3 r3 p3 =>
      hs G4 _ x w y u z ((n.g.trans n2.g).trans n3.g) (R.ex (n2.g.trans n3.g) r) p (S.ex n3.g r2) p2 r3 p3 H4 n3.s Q E fun c G5 H5 d n4 r4 p4 => q c G5 H5 d (((n.trans n2).trans n3).trans n4) r4 p4⟩
theorem ev_prop {C : Addr} {m : Str} {sp : Sp} {E : XK} (hi : InsOf R C m) (h1 : EvP R ta σ G PA) (hs : ∀ G2 v x, Ex G G2 → R.is G2 v x → PA x → SpP Z sp [v] G2 P) : EvP Z (tProp C sp [] E ta) σ G P := fun H e Q q =>
  h1 H e _ fun v G2 H2 x n r p => by
    obtain ⟨a, dx, fs, rfl, ha, hl⟩ := hi G2 v x r
    exact ⟨a, dx, fs, rfl, n.s a _ ha, hs G2 _ x n.g r p H2 n.s Q E fun w G3 H3 y n2 r2 p2 => q w G3 H3 y (n.trans n2) r2 p2⟩
/-- a field -/
theorem ev_fld {f : Str} {x : ε} (h1 : EvP R ta σ G PA) (hf : ∀ G2 v y, Ex G G2 → R.is G2 v y → PA y → ∃ a C dx fs w, v = .ref a ∧ G2 a = some (.ins C dx fs) ∧ Cls K C ∧ NoAttr K C f ∧ fs.lookup f = some w ∧ Z.is G2 w x) : EvD Z (tFld K ta f) σ G x := fun H e Q q =>
  h1 H e _ fun v G2 H2 y n r p => by
    obtain ⟨a, C, dx, fs, w, rfl, ha, c, na, hl, hz⟩ := hf G2 v y n.g r p
    exact ⟨a, C, dx, fs, w, rfl, n.s a _ ha, c, na, hl, q w G2 H2 x n hz rfl⟩
theorem ev_cb1 {r : List V → Hp → VK → Prop} (h1 : EvP R ta σ G PA) (hs : ∀ G2 v x, Ex G G2 → R.is G2 v x → PA x → CbP Z r [v] G2 P) : EvP Z (tCB r (tCons ta tNil)) σ G P := fun H e Q q =>
  h1 H e _ fun v G2 H2 x n r p => hs G2 v x n.g r p H2 n.s Q fun w G3 H3 y n2 r2 p2 => q w G3 H3 y (n.trans n2) r2 p2
theorem ev_cb2 {r : List V → Hp → VK → Prop} (h1 : EvP R ta σ G PA) (h2 : EvP S tb σ G PB) (hs : ∀ G2 v x w y, Ex G G2 → R.is G2 v x → PA x → S.is G2 w y → PB y → CbP Z r [v, w] G2 P) : EvP Z (tCB r (tCons ta (tCons tb tNil))) σ G P := fun H e Q q =>
  h1 H e _ fun v G2 H2 x n r p => h2.mono n.g H2 n.s _ fun w G3 H3 y n2 r2 p2 => hs G3 v x w y (n.g.trans n2.g) (R.ex n2.g r) p r2 p2 H3 n2.s Q fun z G4 H4 c n3 r3 p3 => q z G4 H4 c ((n.trans n2).trans n3) r3 p3

/-! ### built-ins -/
theorem ev_len {xs : List α} (h : EvD (rL R) ta σ G xs) : EvD rN (tCB (fun xs H Q => ∃ x n, xs = [x] ∧ LenV K x H n ∧ Q (.int n) H) (tCons ta tNil)) σ G xs.length := ev_cb1 h fun G2 v x e r p H e2 Q q => by
  subst p
  obtain ⟨a, vs, rfl, ha, hp⟩ := r
  exact ⟨_, vs.length, rfl, .inl ⟨vs, SqL.of (e2 a _ ha), rfl⟩, q _ G2 H x.length (Nxt.refl e2) (by rw [pd_len hp]; rfl) rfl⟩
theorem pd_bools : ∀ {vs : List V} {bs : List Bool} {G : Hp}, Pd (rB.is G) vs bs → vs = bs.map V.bl
  | _, _, _, .nil => rfl
  | _, _, _, .cons a t => by rw [List.map_cons, ← pd_bools t]; cases a; rfl
theorem pd_ints : ∀ {vs : List V} {bs : List Int} {G : Hp}, Pd (FW.rI.is G) vs bs → vs = bs.map V.int
  | _, _, _, .nil => rfl
  | _, _, _, .cons a t => by rw [List.map_cons, ← pd_ints t]; cases a; rfl
theorem pd_strs : ∀ {vs : List V} {bs : List Str} {G : Hp}, Pd (rS.is G) vs bs → vs = bs.map V.str
  | _, _, _, .nil => rfl
  | _, _, _, .cons a t => by rw [List.map_cons, ← pd_strs t]; cases a; rfl
theorem pd_nats : ∀ {vs : List V} {bs : List Nat} {G : Hp}, Pd (rN.is G) vs bs → vs = (bs.map fun n : Nat => (n : Int)).map V.int
  | _, _, _, .nil => rfl
  | _, _, _, .cons a t => by rw [List.map_cons, List.map_cons, ← pd_nats t]; cases a; rfl
theorem ints_pd {G : Hp} : ∀ bs : List Int, Pd (FW.rI.is G) (bs.map V.int) bs
  | [] => .nil
  | _ :: r => .cons rfl (ints_pd r)
theorem strs_pd {G : Hp} : ∀ bs : List Str, Pd (rS.is G) (bs.map V.str) bs
  | [] => .nil
  | _ :: r => .cons rfl (strs_pd r)
theorem nats_pd {G : Hp} : ∀ bs : List Nat, Pd (rN.is G) ((bs.map fun n : Nat => (n : Int)).map V.int) bs
  | [] => .nil
  | _ :: r => .cons rfl (nats_pd r)
theorem ev_all {bs : List Bool} (h : EvD (rL rB) ta σ G bs) : EvD rB (tCB (rAll K) (tCons ta tNil)) σ G (bs.all id) := ev_cb1 h fun G2 v x e r p H e2 Q q => by
  subst p
  obtain ⟨a, vs, rfl, ha, hp⟩ := r
  exact ⟨a, x, rfl, SqL.of (by rw [← pd_bools hp]; exact e2 a _ ha), q _ G2 H _ (Nxt.refl e2) rfl rfl⟩
theorem ev_any {bs : List Bool} (h : EvD (rL rB) ta σ G bs) : EvD rB (tCB (rAny K) (tCons ta tNil)) σ G (bs.any id) := ev_cb1 h fun G2 v x e r p H e2 Q q => by
  subst p
  obtain ⟨a, vs, rfl, ha, hp⟩ := r
  exact ⟨a, x, rfl, SqL.of (by rw [← pd_bools hp]; exact e2 a _ ha), q _ G2 H _ (Nxt.refl e2) rfl rfl⟩
theorem ev_anyP {P' : List Bool → Prop} (h : EvP (rL rB) ta σ G P') : EvP rB (tCB (rAny K) (tCons ta tNil)) σ G (fun b => ∃ bs, P' bs ∧ b = bs.any id) := ev_cb1 h fun G2 v x e r p H e2 Q q => by
  obtain ⟨a, vs, rfl, ha, hp⟩ := r
  exact ⟨a, x, rfl, SqL.of (by rw [← pd_bools hp]; exact e2 a _ ha), q _ G2 H _ (Nxt.refl e2) rfl ⟨x, p, rfl⟩⟩
/-- list(xs) -/
theorem ev_list {xs : List α} (h : EvD (rL R) ta σ G xs) : EvD (rL R) (tCB (fun xs H Q => ∃ p ys, xs = [.ref p] ∧ (SqL K H p ys ∨ SqT K H p ys) ∧ ∀ l, H l = none → Q (.ref l) (upd H l (.lst ys))) (tCons ta tNil)) σ G xs := ev_cb1 h fun G2 v x e r p H e2 Q q => by
  subst p
  obtain ⟨a, vs, rfl, ha, hp⟩ := r
  refine ⟨a, vs, rfl, .inl (SqL.of (e2 a _ ha)), fun l hl => ?_⟩
  have n := Nxt.new (o := .lst vs) e2 hl
  exact q _ _ _ x n ⟨l, vs, rfl, upd_same, pd_mono (fun _ _ => R.ex n.g) hp⟩ rfl
/-! ### displays -/
theorem ev_nil : EvD (rL R) (tLst tNil) σ G [] := fun H e Q q => ⟨Nat.zero_le _, fun p hp => by
  have n := Nxt.new (o := .lst []) e hp
  exact q _ _ _ [] n ⟨p, [], rfl, upd_same, .nil⟩ rfl⟩
theorem ev_lst1 (h1 : EvP R ta σ G PA) : EvP (rL R) (tLst (tCons ta tNil)) σ G (fun xs => ∃ x, PA x ∧ xs = [x]) := fun H e Q q =>
  h1 H e _ fun v G2 H2 x n r p => ⟨by show 1 ≤ sizeLine; decide, fun l hl => by
    have n2 := Nxt.new (o := .lst [v]) n.s hl
    exact q _ _ _ [x] (n.trans n2) ⟨l, _, rfl, upd_same, .cons (R.ex n2.g r) .nil⟩ ⟨x, p, rfl⟩⟩
theorem ev_lst2 (h1 : EvP R ta σ G PA) (h2 : EvP R tb σ G PA) : EvP (rL R) (tLst (tCons ta (tCons tb tNil))) σ G (fun xs => ∃ x y, PA x ∧ PA y ∧ xs = [x, y]) := fun H e Q q =>
  h1 H e _ fun v G2 H2 x n r p => h2.mono n.g H2 n.s _ fun w G3 H3 y n2 r2 p2 => ⟨by show 2 ≤ sizeLine; decide, fun l hl => by
    have n3 := Nxt.new (o := .lst [v, w]) n2.s hl
    exact q _ _ _ [x, y] ((n.trans n2).trans n3) ⟨l, _, rfl, upd_same, .cons (R.ex (n2.g.trans n3.g) r) (.cons (R.ex n3.g r2) .nil)⟩ ⟨x, y, p, p2, rfl⟩⟩
theorem ev_tup2 (h1 : EvP R ta σ G PA) (h2 : EvP S tb σ G PB) : EvP (rT2 R S) (tTup (tCons ta (tCons tb tNil))) σ G (fun z => PA z.1 ∧ PB z.2) := fun H e Q q =>
  h1 H e _ fun v G2 H2 x n r p => h2.mono n.g H2 n.s _ fun w G3 H3 y n2 r2 p2 => ⟨by show 2 ≤ sizeLine; decide, fun l hl => by
    have n3 := Nxt.new (o := .tup [v, w]) n2.s hl
    exact q _ _ _ (x, y) ((n.trans n2).trans n3) ⟨l, _, _, rfl, upd_same, R.ex (n2.g.trans n3.g) r, S.ex n3.g r2⟩ ⟨p, p2⟩⟩
theorem ev_tup2D {x : α} {y : β} (h1 : EvD R ta σ G x) (h2 : EvD S tb σ G y) : EvD (rT2 R S) (tTup (tCons ta (tCons tb tNil))) σ G (x, y) := (ev_tup2 h1 h2).imp fun z h => by
  obtain ⟨rfl, rfl⟩ := h; rfl
theorem ev_tup3 (h1 : EvP R ta σ G PA) (h2 : EvP S tb σ G PB) (h3 : EvP T tc σ G PC) : EvP (rT3 R S T) (tTup (tCons ta (tCons tb (tCons tc tNil)))) σ G (fun z => PA z.1 ∧ PB z.2.1 ∧ PC z.2.2) := fun H e Q q =>
  h1 H e _ fun v G2 H2 x n r p => h2.mono n.g H2 n.s _ fun w G3 H3 y n2 r2 p2 => h3.mono (n.g.trans n2.g) H3 n2.s _ fun u G4 H4 z n3 r3 p3 => ⟨by show 3 ≤ sizeLine; decide, fun l hl => by
    have n4 := Nxt.new (o := .tup [v, w, u]) n3.s hl
    exact q _ _ _ (x, y, z) (((n.trans n2).trans n3).trans n4) ⟨l, _, _, _, rfl, upd_same, R.ex ((n2.g.trans n3.g).trans n4.g) r, S.ex (n3.g.trans n4.g) r2, T.ex n4.g r3⟩ ⟨p, p2, p3⟩⟩
theorem ev_tup4 (h1 : EvP R ta σ G PA) (h2 : EvP S tb σ G PB) (h3 : EvP T tc σ G PC) (h4 : EvP U td σ G PD) : EvP (rT4 R S T U) (tTup (tCons ta (tCons tb (tCons tc (tCons td tNil))))) σ G (fun z => PA z.1 ∧ PB z.2.1 ∧ PC z.2.2.1 ∧ PD z.2.2.2) := fun H e Q q =>
  h1 H e _ fun v G2 H2 x n r p => h2.mono n.g H2 n.s _ fun w G3 H3 y n2 r2 p2 => h3.mono (n.g.trans n2.g) H3 n2.s _ fun u G4 H4 z n3 r3 p3 => h4.mono ((n.g.trans n2.g).trans n3.g) H4 n3.s _ fun c G5 H5 d n4 r4 p4 => ⟨by show 4 ≤ sizeLine; decide, fun l hl => by
    have n5 := Nxt.new (o := .tup [v, w, u, c]) n4.s hl
    exact q _ _ _ (x, y, z, d) ((((n.trans n2).trans n3).trans n4).trans n5) ⟨l, _, _, _, _, rfl, upd_same, R.ex (((n2.g.trans n3.g).trans n4.g).trans n5.g) r, S.ex ((n3.g.trans n4.g).trans n5.g) r2, T.ex (n4.g.trans n5.g) r3, U.ex n5.g r4⟩ ⟨p, p2, p3, p4⟩⟩
/-! ### subscripts, slices, sums of lists -/
theorem ev_ixL {xs : List α} {i : Nat} {x : α} (h : EvD (rL R) ta σ G xs) (hi : EvD FW.rI tb σ G (i : Int)) (hx : xs[i]? = some x) : EvD R (tOp (rIxL K) ta tb) σ G x := ev_op h hi fun G2 v ys w y e r1 p1 r2 p2 H e2 Q q => by
  subst p1 p2
  cases r2
  obtain ⟨a, vs, rfl, ha, hp⟩ := r1
  obtain ⟨z, hz, rz⟩ := pd_get hp hx
  exact ⟨a, vs, _, z, rfl, rfl, SqL.of (e2 a _ ha), atI_nat hz, q z G2 H x (Nxt.refl e2) rz rfl⟩
theorem ev_ixLast {xs : List α} {x : α} (h : EvD (rL R) ta σ G (xs ++ [x])) (hi : EvD FW.rI tb σ G (-1)) : EvD R (tOp (rIxL K) ta tb) σ G x := ev_op h hi fun G2 v ys w y e r1 p1 r2 p2 H e2 Q q => by
  subst p1 p2
  cases r2
  obtain ⟨a, vs, rfl, ha, hp⟩ := r1
  have hl := pd_len hp
  rw [List.length_append, List.length_singleton] at hl
  obtain ⟨z, hz, rz⟩ := pd_get (i := xs.length) (y := x) hp (by simp)
  have ev : vs = vs.dropLast ++ [z] := by
    have h1 : vs ≠ [] := fun z => by rw [z] at hl; cases hl
    have h2 := List.dropLast_concat_getLast h1
    rw [List.getLast_eq_getElem] at h2
    have h3 : vs[vs.length - 1]? = some z := by rw [hl]; exact hz
    obtain ⟨h4, h5⟩ := List.getElem?_eq_some_iff.mp h3
    rw [h5] at h2
    exact h2.symm
  exact ⟨a, vs, _, z, rfl, rfl, SqL.of (e2 a _ ha), by rw [ev]; exact atI_last _ _, q z G2 H x (Nxt.refl e2) rz rfl⟩
theorem ev_ixT2_0 {z : α × β} (h : EvD (rT2 R S) ta σ G z) : EvD R (tOp (rIxT K) ta (tC (.int 0))) σ G z.1 := fun H e Q q => h H e _ fun v G2 H2 y n r p => by
  subst p
  obtain ⟨a, v1, v2, rfl, ha, r1, r2⟩ := r
  exact ⟨a, _, 0, v1, rfl, rfl, SqT.of (n.s a _ ha), rfl, q _ G2 H2 _ n r1 rfl⟩
theorem ev_ixT2_1 {z : α × β} (h : EvD (rT2 R S) ta σ G z) : EvD S (tOp (rIxT K) ta (tC (.int 1))) σ G z.2 := fun H e Q q => h H e _ fun v G2 H2 y n r p => by
  subst p
  obtain ⟨a, v1, v2, rfl, ha, r1, r2⟩ := r
  exact ⟨a, _, 1, v2, rfl, rfl, SqT.of (n.s a _ ha), rfl, q _ G2 H2 _ n r2 rfl⟩
/-- the i-th of a tuple, by the tuple itself -/
theorem ev_ixT {i : Nat} {x : ε} (h : EvP R ta σ G PA) (hx : ∀ G2 v y, Ex G G2 → R.is G2 v y → PA y → ∃ a vs w, v = .ref a ∧ G2 a = some (.tup vs) ∧ vs[i]? = some w ∧ Z.is G2 w x) : EvD Z (tOp (rIxT K) ta (tC (.int (i : Int)))) σ G x := fun H e Q q => h H e _ fun v G2 H2 y n r p => by
  obtain ⟨a, vs, w, rfl, ha, hw, hz⟩ := hx G2 v y n.g r p
  exact ⟨a, vs, i, w, rfl, rfl, SqT.of (n.s a _ ha), atI_nat hw, q w G2 H2 x n hz rfl⟩
theorem ev_cat {xs ys : List α} (ha : EvD (rL R) ta σ G xs) (hb : EvD (rL R) tb σ G ys) (hl : xs.length + ys.length ≤ 100000) : EvD (rL R) (tOp rCat ta tb) σ G (xs ++ ys) := ev_op ha hb fun G2 v x w y e r1 p1 r2 p2 H e2 Q q => by
  subst p1 p2
  obtain ⟨a, vs, rfl, ha, hp⟩ := r1
  obtain ⟨b, ws, rfl, hb, hp2⟩ := r2
  refine ⟨a, b, vs, ws, rfl, rfl, e2 a _ ha, e2 b _ hb, ?_, fun p hp0 => ?_⟩
  · rw [pd_len hp, pd_len hp2]; exact Nat.le_trans hl (by decide)
  · have n := Nxt.new (o := .lst (vs ++ ws)) e2 hp0
    exact q _ _ _ _ n ⟨p, _, rfl, upd_same, pd_mono (fun _ _ => R.ex n.g) (pd_app hp hp2)⟩ rfl
theorem ev_rev {xs : List α} (ha : EvD (rL R) ta σ G xs) : EvD (rL R) (tRevL K ta) σ G xs.reverse := fun H e Q q => ha H e _ fun v G2 H2 x n r p => by
  subst p
  obtain ⟨a, vs, rfl, ha, hp⟩ := r
  refine ⟨a, vs, rfl, SqL.of (n.s a _ ha), fun p hp0 => ?_⟩
  have n2 := Nxt.new (o := .lst vs.reverse) n.s hp0
  exact q _ _ _ _ (n.trans n2) ⟨p, _, rfl, upd_same, pd_mono (fun _ _ => R.ex n2.g) (pd_rev hp)⟩ rfl
theorem ev_takeL {xs : List α} {k : Nat} (ha : EvD (rL R) ta σ G xs) (hk : EvD FW.rI tb σ G (k : Int)) : EvD (rL R) (tSl (rSlL K) ta tNoPart (tPart tb)) σ G (xs.take k) := fun H e Q q => ha H e _ fun v G2 H2 x n r p => by
  subst p
  obtain ⟨a, vs, rfl, ha, hp⟩ := r
  refine hk.mono n.g H2 n.s _ fun w G3 H3 y n2 r2 p2 => ?_
  subst p2
  cases r2
  refine ⟨_, rfl, a, vs, rfl, SqL.of (n2.s a _ (n2.g a _ ha)), fun p hp0 => ?_⟩
  have ec : cutV vs none (some (k : Int)) = vs.take k := by
    unfold cutV
    rw [HT.sIx_none, HT.sIx_nat, List.drop_zero, Nat.sub_zero]
    by_cases hk : k ≤ vs.length
    · rw [Nat.min_eq_left hk]
    · rw [Nat.min_eq_right (by omega), List.take_of_length_le (Nat.le_refl _), List.take_of_length_le (by omega)]
  rw [ec]
  have n3 := Nxt.new (o := .lst (vs.take k)) n2.s hp0
  exact q _ _ _ _ ((n.trans n2).trans n3) ⟨p, _, rfl, upd_same, pd_mono (fun _ _ => R.ex (n2.g.trans n3.g)) (pd_take k hp)⟩ rfl
theorem ev_dropL {xs : List α} {k : Nat} (ha : EvD (rL R) ta σ G xs) (hk : EvD FW.rI tb σ G (k : Int)) : EvD (rL R) (tSl (rSlL K) ta (tPart tb) tNoPart) σ G (xs.drop k) := fun H e Q q => ha H e _ fun v G2 H2 x n r p => by
  subst p
  obtain ⟨a, vs, rfl, ha, hp⟩ := r
  refine hk.mono n.g H2 n.s _ fun w G3 H3 y n2 r2 p2 => ?_
  subst p2
  cases r2
  refine ⟨_, rfl, a, vs, rfl, SqL.of (n2.s a _ (n2.g a _ ha)), fun p hp0 => ?_⟩
  have ec : cutV vs (some (k : Int)) none = vs.drop k := by
    unfold cutV
    rw [HT.sIx_none, HT.sIx_nat]
    by_cases hk : k ≤ vs.length
    · rw [Nat.min_eq_left hk, List.take_of_length_le (by rw [List.length_drop]; omega)]
    · rw [Nat.min_eq_right (by omega), List.drop_of_length_le (Nat.le_refl _), List.drop_of_length_le (by omega), List.take_nil]
  rw [ec]
  have n3 := Nxt.new (o := .lst (vs.drop k)) n2.s hp0
  exact q _ _ _ _ ((n.trans n2).trans n3) ⟨p, _, rfl, upd_same, pd_mono (fun _ _ => R.ex (n2.g.trans n3.g)) (pd_drop k hp)⟩ rfl
/-! ### in, not in: lists -/
theorem inV_strs (x : Str) : ∀ xs : List Str, inV (.str x) (xs.map V.str) = decide (x ∈ xs)
  | [] => rfl
  | y :: r => by
    have ih := inV_strs x r
    show (eqV (.str y) (.str x) || inV (.str x) (r.map V.str)) = _
    rw [ih]
    show ((y == x) || decide (x ∈ r)) = _
    by_cases h : y = x
    · subst h; simp
    · have : (y == x) = false := beq_eq_false_iff_ne.mpr h
      rw [this, Bool.false_or]
      have h2 : (x ∈ y :: r) ↔ x ∈ r := by
        rw [List.mem_cons]
        exact ⟨fun z => z.resolve_left fun e => h e.symm, .inr⟩
      exact (decide_eq_decide.mpr h2).symm
theorem flat_strs : ∀ xs : List Str, (xs.map V.str).all flatV = true
  | [] => rfl
  | _ :: r => by
    show (true && (r.map V.str).all flatV) = true
    rw [flat_strs r]; rfl
theorem inV_ints (x : Int) : ∀ xs : List Int, inV (.int x) (xs.map V.int) = decide (x ∈ xs)
  | [] => rfl
  | y :: r => by
    have ih := inV_ints x r
    show (eqV (.int y) (.int x) || inV (.int x) (r.map V.int)) = _
    rw [ih]
    show ((y == x) || decide (x ∈ r)) = _
    by_cases h : y = x
    · subst h; simp
    · have : (y == x) = false := beq_eq_false_iff_ne.mpr h
      rw [this, Bool.false_or]
      have h2 : (x ∈ y :: r) ↔ x ∈ r := by
        rw [List.mem_cons]
        exact ⟨fun z => z.resolve_left fun e => h e.symm, .inr⟩
      exact (decide_eq_decide.mpr h2).symm
theorem flat_ints : ∀ xs : List Int, (xs.map V.int).all flatV = true
  | [] => rfl
  | _ :: r => by
    show (true && (r.map V.int).all flatV) = true
    rw [flat_ints r]; rfl
theorem mem_nats {x : Nat} {xs : List Nat} : (x : Int) ∈ (xs.map fun n : Nat => (n : Int)) ↔ x ∈ xs := by
  rw [List.mem_map]
  constructor
  · rintro ⟨y, hy, e⟩
    have : y = x := by omega
    subst this; exact hy
  · exact fun h => ⟨x, h, rfl⟩
theorem ev_inS {x : Str} {xs : List Str} (ha : EvD rS ta σ G x) (hb : EvD (rL rS) tb σ G xs) : EvD rB (tOp (rIn K false) ta tb) σ G (decide (x ∈ xs)) := ev_op ha hb fun G2 v z w y e r1 p1 r2 p2 H e2 Q q => by
  subst p1 p2
  cases r1
  obtain ⟨a, vs, rfl, ha, hp⟩ := r2
  have hv := pd_strs hp
  refine ⟨a, vs, rfl, .inl (SqL.of (e2 a _ ha)), rfl, by rw [hv]; exact flat_strs _, q _ G2 H _ (Nxt.refl e2) rfl ?_⟩
  rw [hv, inV_strs]; rfl
theorem ev_notInS {x : Str} {xs : List Str} (ha : EvD rS ta σ G x) (hb : EvD (rL rS) tb σ G xs) : EvD rB (tOp (rIn K true) ta tb) σ G (!decide (x ∈ xs)) := ev_op ha hb fun G2 v z w y e r1 p1 r2 p2 H e2 Q q => by
  subst p1 p2
  cases r1
  obtain ⟨a, vs, rfl, ha, hp⟩ := r2
  have hv := pd_strs hp
  refine ⟨a, vs, rfl, .inl (SqL.of (e2 a _ ha)), rfl, by rw [hv]; exact flat_strs _, q _ G2 H _ (Nxt.refl e2) rfl ?_⟩
  rw [hv, inV_strs]; rfl
theorem ev_inN {x : Nat} {xs : List Nat} (ha : EvD rN ta σ G x) (hb : EvD (rL rN) tb σ G xs) : EvD rB (tOp (rIn K false) ta tb) σ G (decide (x ∈ xs)) := ev_op ha hb fun G2 v z w y e r1 p1 r2 p2 H e2 Q q => by
  subst p1 p2
  cases r1
  obtain ⟨a, vs, rfl, ha, hp⟩ := r2
  have hv := pd_nats hp
  refine ⟨a, vs, rfl, .inl (SqL.of (e2 a _ ha)), rfl, by rw [hv]; exact flat_ints _, q _ G2 H _ (Nxt.refl e2) rfl ?_⟩
  rw [hv, inV_ints]
  exact decide_eq_decide.mpr mem_nats
theorem ev_notInN {x : Nat} {xs : List Nat} (ha : EvD rN ta σ G x) (hb : EvD (rL rN) tb σ G xs) : EvD rB (tOp (rIn K true) ta tb) σ G (!decide (x ∈ xs)) := ev_op ha hb fun G2 v z w y e r1 p1 r2 p2 H e2 Q q => by
  subst p1 p2
  cases r1
  obtain ⟨a, vs, rfl, ha, hp⟩ := r2
  have hv := pd_nats hp
  refine ⟨a, vs, rfl, .inl (SqL.of (e2 a _ ha)), rfl, by rw [hv]; exact flat_ints _, q _ G2 H _ (Nxt.refl e2) rfl ?_⟩
  rw [hv, inV_ints]
  exact congrArg (!·) (decide_eq_decide.mpr mem_nats)
end
end FW
/-! OWN FRAMEWORK, part 3: dicts, what is walked, comprehensions, locks, statements. -/
namespace FW
open PySem L2
/-! ### dicts by typed keys -/
section
variable {κ α : Type} [DecidableEq κ]
def look (xs : List (κ × α)) (k : κ) : Option α := (xs.find? fun kv => decide (kv.1 = k)).map (·.2)
def put (xs : List (κ × α)) (k : κ) (x : α) : List (κ × α) :=
  if (xs.any fun kv => decide (kv.1 = k)) = true then xs.map (fun kv => if kv.1 = k then (kv.1, x) else kv) else xs ++ [(k, x)]
theorem look_nil {k : κ} : look ([] : List (κ × α)) k = none := rfl
theorem look_cons {p : κ × α} {r : List (κ × α)} {k : κ} : look (p :: r) k = if p.1 = k then some p.2 else look r k := by
  unfold look
  by_cases h : p.1 = k
  · rw [List.find?_cons_of_pos (by simp [h]), if_pos h]; rfl
  · rw [List.find?_cons_of_neg (by simp [h]), if_neg h]
theorem look_some_mem {k : κ} {x : α} : ∀ {xs : List (κ × α)}, look xs k = some x → (k, x) ∈ xs
  | [], h => by cases h
  | p :: r, h => by
    rw [look_cons] at h
    by_cases e : p.1 = k
    · rw [if_pos e] at h
      cases h; subst e
      exact List.mem_cons_self
    · rw [if_neg e] at h
      exact List.mem_cons_of_mem _ (look_some_mem h)
theorem look_none {k : κ} : ∀ {xs : List (κ × α)}, look xs k = none ↔ k ∉ xs.map (·.1)
  | [] => by simp [look]
  | p :: r => by
    rw [look_cons, List.map_cons, List.mem_cons]
    by_cases e : p.1 = k
    · rw [if_pos e]; simp [e]
    · rw [if_neg e, look_none (xs := r)]
      constructor
      · rintro h (z | z)
        · exact e z.symm
        · exact h z
      · exact fun h z => h (.inr z)
theorem look_isSome {k : κ} {xs : List (κ × α)} : (look xs k).isSome = decide (k ∈ xs.map (·.1)) := by
  cases h : look xs k with
  | none => rw [decide_eq_false (look_none.mp h)]; rfl
  | some x => rw [decide_eq_true (List.mem_map.mpr ⟨_, look_some_mem h, rfl⟩)]; rfl
theorem look_of_mem {k : κ} {x : α} : ∀ {xs : List (κ × α)}, (xs.map (·.1)).Nodup → (k, x) ∈ xs → look xs k = some x
  | [], _, h => by cases h
  | p :: r, nd, h => by
    rw [look_cons]
    rw [List.map_cons, List.nodup_cons] at nd
    rcases List.mem_cons.mp h with rfl | h
    · rw [if_pos rfl]
    · rw [if_neg fun e => nd.1 (by rw [e]; exact List.mem_map.mpr ⟨_, h, rfl⟩)]
      exact look_of_mem nd.2 h
theorem put_keys {k : κ} {x : α} {xs : List (κ × α)} : (put xs k x).map (·.1) = if k ∈ xs.map (·.1) then xs.map (·.1) else xs.map (·.1) ++ [k] := by
  unfold put
  by_cases h : k ∈ xs.map (·.1)
  · obtain ⟨p, hp, e⟩ := List.mem_map.mp h
    rw [if_pos h, if_pos (List.any_eq_true.mpr ⟨p, hp, by simp [e]⟩), List.map_map]
    refine List.map_congr_left fun q _ => ?_
    show (if q.1 = k then (q.1, x) else q).1 = q.1
    by_cases z : q.1 = k
    · rw [if_pos z]
    · rw [if_neg z]
  · rw [if_neg h, if_neg, List.map_append]
    · rfl
    · intro z
      obtain ⟨p, hp, e⟩ := List.any_eq_true.mp z
      exact h (List.mem_map.mpr ⟨p, hp, of_decide_eq_true e⟩)
theorem put_nodup {k : κ} {x : α} {xs : List (κ × α)} (nd : (xs.map (·.1)).Nodup) : ((put xs k x).map (·.1)).Nodup := by
  rw [put_keys]
  by_cases h : k ∈ xs.map (·.1)
  · rw [if_pos h]; exact nd
  · rw [if_neg h, List.nodup_append]
    refine ⟨nd, List.nodup_cons.mpr ⟨by simp, List.nodup_nil⟩, fun a ha b hb e => ?_⟩
    rw [List.mem_singleton] at hb
    subst hb; subst e; exact h ha
theorem put_len {k : κ} {x : α} {xs : List (κ × α)} : (put xs k x).length = if k ∈ xs.map (·.1) then xs.length else xs.length + 1 := by
  have := congrArg List.length (put_keys (k := k) (x := x) (xs := xs))
  rw [List.length_map] at this
  rw [this]
  by_cases h : k ∈ xs.map (·.1)
  · rw [if_pos h, if_pos h, List.length_map]
  · rw [if_neg h, if_neg h, List.length_append, List.length_map]; rfl
theorem look_map {k j : κ} {x : α} : ∀ {xs : List (κ × α)}, look (xs.map fun kv => if kv.1 = k then (kv.1, x) else kv) j = if j = k then (look xs j).map (fun _ => x) else look xs j
  | [] => by rw [List.map_nil, look_nil]; by_cases h : j = k <;> simp [h]
  | p :: r => by
    rw [List.map_cons, look_cons, look_cons, look_map (xs := r)]
    by_cases h1 : p.1 = k
    · rw [if_pos h1]
      by_cases h2 : j = k
      · subst h2; simp [h1]
      · have h3 : ¬ p.1 = j := fun e => h2 (e.symm.trans h1)
        simp only [if_neg h3, if_neg h2]
    · rw [if_neg h1]
      by_cases h3 : p.1 = j
      · have h2 : ¬ j = k := fun e => h1 (h3.trans e)
        rw [if_pos h3, if_pos h3, if_neg h2]
      · rw [if_neg h3, if_neg h3]
theorem look_snoc {k j : κ} {x : α} : ∀ {xs : List (κ × α)}, k ∉ xs.map (·.1) → look (xs ++ [(k, x)]) j = if j = k then some x else look xs j
  | [], _ => by
    rw [List.nil_append, look_cons]
    by_cases h : j = k
    · subst h; simp
    · rw [if_neg (fun e => h e.symm), if_neg h]
  | p :: r, hn => by
    rw [List.map_cons, List.mem_cons, not_or] at hn
    rw [List.cons_append, look_cons, look_cons, look_snoc hn.2]
    by_cases h1 : p.1 = j
    · have : ¬ j = k := fun e => hn.1 (h1.trans e).symm
      rw [if_pos h1, if_pos h1, if_neg this]
    · rw [if_neg h1, if_neg h1]
theorem look_put {k j : κ} {x : α} {xs : List (κ × α)} : look (put xs k x) j = if j = k then some x else look xs j := by
  unfold put
  by_cases h : k ∈ xs.map (·.1)
  · obtain ⟨p, hp, e⟩ := List.mem_map.mp h
    rw [if_pos (List.any_eq_true.mpr ⟨p, hp, by simp [e]⟩), look_map]
    by_cases z : j = k
    · subst z
      rw [if_pos rfl, if_pos rfl]
      cases q : look xs j with
      | none => exact absurd h (look_none.mp q)
      | some y => rfl
    · rw [if_neg z, if_neg z]
  · rw [if_neg, look_snoc h]
    intro z
    obtain ⟨p, hp, e⟩ := List.any_eq_true.mp z
    exact h (List.mem_map.mpr ⟨p, hp, of_decide_eq_true e⟩)
theorem mem_put {k : κ} {x : α} {xs : List (κ × α)} {p : κ × α} (h : p ∈ put xs k x) : p = (k, x) ∨ p ∈ xs := by
  unfold put at h
  split at h
  · obtain ⟨q, hq, e⟩ := List.mem_map.mp h
    by_cases z : q.1 = k
    · rw [if_pos z] at e; left; rw [← e, z]
    · rw [if_neg z] at e; right; rw [← e]; exact hq
  · rcases List.mem_append.mp h with h | h
    · exact .inr h
    · exact .inl (by simpa using h)
end
section
variable {κ τ α : Type} [DecidableEq κ] [DecidableEq τ] {kf : κ → τ} {R : Rp α} {G : Hp}
theorem pd_look (inj : ∀ a b, kf a = kf b → a = b) : ∀ {kvs : List (τ × V)} {xs : List (κ × α)} (k : κ), Pd (Ent kf R G) kvs xs → (look xs k = none ∧ valV kvs (kf k) = none) ∨ ∃ x v, look xs k = some x ∧ valV kvs (kf k) = some v ∧ R.is G v x
  | _, _, k, .nil => .inl ⟨rfl, rfl⟩
  | p :: kvs, q :: xs, k, .cons a t => by
    rw [look_cons]
    by_cases h : q.1 = k
    · subst h
      rw [if_pos rfl, valV_pos a.1]
      exact .inr ⟨_, _, rfl, rfl, a.2⟩
    · rw [if_neg h, valV_neg (fun e => h (inj _ _ (a.1.symm.trans e)))]
      exact pd_look inj k t
theorem pd_any (inj : ∀ a b, kf a = kf b → a = b) (k : κ) : ∀ {kvs : List (τ × V)} {xs : List (κ × α)}, Pd (Ent kf R G) kvs xs → (kvs.any fun kv => decide (kv.1 = kf k)) = (xs.any fun kv => decide (kv.1 = k))
  | _, _, .nil => rfl
  | p :: kvs, q :: xs, .cons a t => by
    rw [List.any_cons, List.any_cons, pd_any inj k t]
    congr 1
    refine decide_eq_decide.mpr ⟨fun e => inj _ _ (a.1.symm.trans e), fun e => by rw [a.1, e]⟩
theorem pd_put (inj : ∀ a b, kf a = kf b → a = b) {k : κ} {v : V} {x : α} {kvs : List (τ × V)} {xs : List (κ × α)} (h : Pd (Ent kf R G) kvs xs) (r : R.is G v x) : Pd (Ent kf R G) (putK kvs (kf k) v) (put xs k x) := by
  unfold putK put
  rw [pd_any inj k h]
  by_cases z : (xs.any fun kv => decide (kv.1 = k)) = true
  · rw [if_pos z, if_pos z]
    clear z
    induction h with
    | nil => exact .nil
    | @cons p q l₁ l₂ a t ih =>
      refine .cons ?_ ih
      show Ent kf R G (if p.1 = kf k then (p.1, v) else p) (if q.1 = k then (q.1, x) else q)
      by_cases e : q.1 = k
      · rw [if_pos e, if_pos (by rw [a.1, e])]
        exact ⟨a.1, r⟩
      · rw [if_neg e, if_neg (fun z => e (inj _ _ (a.1.symm.trans z)))]
        exact a
  · rw [if_neg z, if_neg z]
    exact pd_snoc h ⟨rfl, r⟩
end
theorem inj_S : ∀ a b : Str, kS a = kS b → a = b := fun _ _ h => Sum.inr.inj h
theorem inj_N : ∀ a b : Nat, kN a = kN b → a = b := fun a b h => by
  have : (a : Int) = (b : Int) := Sum.inl.inj h
  omega
theorem inj_SS : ∀ a b : Str × Str, kSS a = kSS b → a = b := fun a b h => by
  unfold kSS at h
  injection h with h1 h2
  injection h2 with h2 _
  exact Prod.ext (Sum.inr.inj h1) (Sum.inr.inj h2)
theorem inj_SI : ∀ a b : Str × Int, kSI a = kSI b → a = b := fun a b h => by
  unfold kSI at h
  injection h with h1 h2
  injection h2 with h2 _
  exact Prod.ext (Sum.inr.inj h1) (Sum.inl.inj h2)
/-- what tells a key -/
def KeyR {κ : Type} (RK : Rp κ) (kf : κ → Key) : Prop := ∀ G v k, RK.is G v k → v = kV (kf k)
theorem key_S : KeyR rS kS := fun _ _ _ h => h
theorem key_N : KeyR rN kN := fun _ _ _ h => h
def KeyT {κ : Type} (RK : Rp κ) (kf : κ → List Key) : Prop := ∀ G v k, RK.is G v k → ∃ b, v = .ref b ∧ G b = some (.tup ((kf k).map kV))
theorem key_SS : KeyT (rT2 rS rS) kSS := fun G v k h => by
  obtain ⟨a, v1, v2, rfl, h1, h2, h3⟩ := h
  cases h2; cases h3
  exact ⟨a, rfl, h1⟩
theorem key_SI : KeyT (rT2 rS rI) kSI := fun G v k h => by
  obtain ⟨a, v1, v2, rfl, h1, h2, h3⟩ := h
  cases h2; cases h3
  exact ⟨a, rfl, h1⟩
section
variable {κ α β γ ε : Type} [DecidableEq κ] {R : Rp α} {S : Rp β} {T : Rp γ} {Z : Rp ε} {RK : Rp κ} {σ : L2.St} {G : Hp} {ta td ty tv te : TE} {t tt : TT} {K : PySem.W.Frag}
theorem ev_Dr {kf : κ → Key} {xs : List (κ × α)} (h : EvD (rD kf R) td σ G xs) : EvD (rDr kf R) td σ G xs := h.as fun G2 v x e r p => ⟨x, rD_r r, p⟩
theorem ev_dget {kf : κ → Key} {xs : List (κ × α)} {k : κ} {x : α} (inj : ∀ a b, kf a = kf b → a = b) (hk : KeyR RK kf) (hd : EvD (rDr kf R) td σ G xs) (hy : EvD RK ty σ G k) (hx : look xs k = some x) : EvD R (tDGet td ty) σ G x := fun H e Q q =>
  hd H e _ fun v G2 H2 ys n r p => hy.mono n.g H2 n.s _ fun w G3 H3 j n2 r2 p2 => by
    subst p p2
    obtain ⟨a, kvs, rfl, ha, hp⟩ := (rDr kf R).ex n2.g r
    rcases pd_look inj j hp with ⟨z, _⟩ | ⟨y, u, z, zu, ru⟩
    · rw [hx] at z; cases z
    · rw [hx] at z; cases z
      exact ⟨a, u, rfl, .inl ⟨kvs, kf j, n2.s.rd ha, hk _ _ _ r2, zu.symm⟩, q u G3 H3 x (n.trans n2) ru rfl⟩
theorem ev_din {kf : κ → Key} {xs : List (κ × α)} {k : κ} (inj : ∀ a b, kf a = kf b → a = b) (hk : KeyR RK kf) (hy : EvD RK ty σ G k) (hd : EvD (rDr kf R) td σ G xs) : EvD rB (tDIn ty td) σ G (decide (k ∈ xs.map (·.1))) := fun H e Q q =>
  hy H e _ fun w G2 H2 j n r p => hd.mono n.g H2 n.s _ fun v G3 H3 ys n2 r2 p2 => by
    subst p p2
    obtain ⟨a, kvs, rfl, ha, hp⟩ := r2
    have hg : DGet H3 a w (valV kvs (kf j)) := .inl ⟨kvs, kf j, n2.s.rd ha, hk _ _ _ r, rfl⟩
    refine ⟨a, _, rfl, hg, q _ G3 H3 _ (n.trans n2) rfl ?_⟩
    rcases pd_look inj j hp with ⟨z, zu⟩ | ⟨y, u, z, zu, ru⟩
    all_goals
      first
      | (show (valV kvs (kf j)).isSome = decide (j ∈ ys.map (·.1)); rw [zu, ← look_isSome, z] <;> rfl)
      | (show (!(valV kvs (kf j)).isSome) = !decide (j ∈ ys.map (·.1)); rw [zu, ← look_isSome, z] <;> rfl)
theorem ev_dnotin {kf : κ → Key} {xs : List (κ × α)} {k : κ} (inj : ∀ a b, kf a = kf b → a = b) (hk : KeyR RK kf) (hy : EvD RK ty σ G k) (hd : EvD (rDr kf R) td σ G xs) : EvD rB (tDNotIn ty td) σ G (!decide (k ∈ xs.map (·.1))) := fun H e Q q =>
  hy H e _ fun w G2 H2 j n r p => hd.mono n.g H2 n.s _ fun v G3 H3 ys n2 r2 p2 => by
    subst p p2
    obtain ⟨a, kvs, rfl, ha, hp⟩ := r2
    have hg : DGet H3 a w (valV kvs (kf j)) := .inl ⟨kvs, kf j, n2.s.rd ha, hk _ _ _ r, rfl⟩
    refine ⟨a, _, rfl, hg, q _ G3 H3 _ (n.trans n2) rfl ?_⟩
    rcases pd_look inj j hp with ⟨z, zu⟩ | ⟨y, u, z, zu, ru⟩
    all_goals
      first
      | (show (valV kvs (kf j)).isSome = decide (j ∈ ys.map (·.1)); rw [zu, ← look_isSome, z] <;> rfl)
      | (show (!(valV kvs (kf j)).isSome) = !decide (j ∈ ys.map (·.1)); rw [zu, ← look_isSome, z] <;> rfl)
theorem ev_dinT {kf : κ → List Key} {xs : List (κ × α)} {k : κ} (inj : ∀ a b, kf a = kf b → a = b) (hk : KeyT RK kf) (hy : EvD RK ty σ G k) (hd : EvD (rDT kf R) td σ G xs) : EvD rB (tDIn ty td) σ G (decide (k ∈ xs.map (·.1))) := fun H e Q q =>
  hy H e _ fun w G2 H2 j n r p => hd.mono n.g H2 n.s _ fun v G3 H3 ys n2 r2 p2 => by
    subst p p2
    obtain ⟨a, kvs, rfl, ha, hp⟩ := r2
    obtain ⟨b, rfl, hb⟩ := hk _ _ _ r
    have hg : DGet H3 a (.ref b) (valV kvs (kf j)) := .inr ⟨kvs, kf j, b, .inl (n2.s a _ ha), rfl, n2.s b _ (n2.g b _ hb), rfl⟩
    refine ⟨a, _, rfl, hg, q _ G3 H3 _ (n.trans n2) rfl ?_⟩
    rcases pd_look inj j hp with ⟨z, zu⟩ | ⟨y, u, z, zu, ru⟩
    all_goals
      first
      | (show (valV kvs (kf j)).isSome = decide (j ∈ ys.map (·.1)); rw [zu, ← look_isSome, z] <;> rfl)
      | (show (!(valV kvs (kf j)).isSome) = !decide (j ∈ ys.map (·.1)); rw [zu, ← look_isSome, z] <;> rfl)
theorem ev_lenD {kf : κ → Key} {xs : List (κ × α)} (h : EvD (rD kf R) ta σ G xs) : EvD rN (tCB (fun xs H Q => ∃ a kvs, xs = [V.ref a] ∧ H a = some (.dK kvs) ∧ Q (.int kvs.length) H) (tCons ta tNil)) σ G xs.length := ev_cb1 h fun G2 v x e r p H e2 Q q => by
  subst p
  obtain ⟨a, kvs, rfl, ha, hp⟩ := r
  exact ⟨a, kvs, rfl, e2 a _ ha, q _ G2 H x.length (Nxt.refl e2) (by rw [pd_len hp]; rfl) rfl⟩
/-! ### targets -/
def Tg (g : TG) (v : V) (σ : L2.St) (G : Hp) (σ2 : L2.St) : Prop := ∀ H, Ex G H → ∀ Q : L2.St → Hp → Prop, Q σ2 H → g v σ H Q
theorem tg_name {i : Nat} {v : V} : Tg (gName i) v σ G (σ.set i (some v)) := fun H e Q q => q
theorem tg_tup2 {g1 g2 : TG} {a : Addr} {v1 v2 : V} {σ1 σ2 : L2.St} (h : G a = some (.tup [v1, v2])) (h1 : Tg g1 v1 σ G σ1) (h2 : Tg g2 v2 σ1 G σ2) : Tg (gTup K 2 (gCons g1 (gCons g2 gNil))) (.ref a) σ G σ2 := fun H e Q q =>
  ⟨a, _, rfl, SqT.of (e a _ h), rfl, v1, _, rfl, h1 H e _ ⟨v2, _, rfl, h2 H e _ ⟨rfl, q⟩⟩⟩
theorem tg_tup3 {g1 g2 g3 : TG} {a : Addr} {v1 v2 v3 : V} {σ1 σ2 σ3 : L2.St} (h : G a = some (.tup [v1, v2, v3])) (h1 : Tg g1 v1 σ G σ1) (h2 : Tg g2 v2 σ1 G σ2) (h3 : Tg g3 v3 σ2 G σ3) : Tg (gTup K 3 (gCons g1 (gCons g2 (gCons g3 gNil)))) (.ref a) σ G σ3 := fun H e Q q =>
  ⟨a, _, rfl, SqT.of (e a _ h), rfl, v1, _, rfl, h1 H e _ ⟨v2, _, rfl, h2 H e _ ⟨v3, _, rfl, h3 H e _ ⟨rfl, q⟩⟩⟩⟩
/-! ### what is walked -/
def WalkD (R : Rp α) (J : It) (G : Hp) (xs : List α) : Prop :=
  (∀ i H, Ex G H → xs.length ≤ i → J.stop i H) ∧ ∀ i x, xs[i]? = some x → ∀ H G', Ex G G' → Ex G' H → J.go i H ∧ ∀ v H', J.yld i H v H' → ∃ G'', Nxt G' H G'' H' ∧ R.is G'' v x
def EvI (R : Rp α) (wi : TI) (σ : L2.St) (G : Hp) (P : List α → Prop) : Prop := ∀ H, Ex G H → ∀ Rr : It → Hp → Prop, (∀ J G2 H2 xs, Nxt G H G2 H2 → P xs → WalkD R J G2 xs → Rr J H2) → wi σ H Rr
theorem EvI.mono {wi : TI} {G' : Hp} {P : List α → Prop} (e : Ex G G') (h : EvI R wi σ G P) : EvI R wi σ G' P := fun H e' Q q =>
  h H (e.trans e') Q fun J G2 H2 xs n p w => by
    obtain ⟨n', j⟩ := nxt_join e e' n
    exact q J _ H2 xs n' p ⟨fun i H3 e3 => w.1 i H3 (j.trans e3), fun i x hx H3 G3 e3 => w.2 i x hx H3 G3 (j.trans e3)⟩
theorem ei_list {P : List α → Prop} (h : EvP (rL R) ta σ G P) : EvI R (iList K ta) σ G P := fun H e Rr q => h H e _ fun v G2 H2 xs n r p => by
  obtain ⟨a, vs, rfl, ha, hp⟩ := r
  refine ⟨a, rfl, ⟨vs, SqL.of (n.s a _ ha)⟩, q _ G2 H2 xs n p ⟨fun i H e2 hi => ⟨vs, SqL.of (e2 a _ ha), by rw [pd_len hp]; exact hi⟩, fun i x hx H3 G3 e3 e4 => ?_⟩⟩
  obtain ⟨u, hu, ru⟩ := pd_get hp hx
  refine ⟨⟨vs, u, SqL.of (e4 a _ (e3 a _ ha)), hu⟩, fun v H' hy => ?_⟩
  obtain ⟨rfl, hv⟩ := hy
  have := hv vs (SqL.of (e4 a _ (e3 a _ ha)))
  rw [hu] at this; cases this
  exact ⟨G3, Nxt.refl e4, R.ex e3 ru⟩
theorem ei_range1 {n : Nat} (h : EvD FW.rI ta σ G (n : Int)) (hn : n ≤ 100000) : EvI rN (iRng1 (tCons ta tNil)) σ G (fun xs => xs = List.range n) := fun H e Rr q => h H e _ fun v G2 H2 x nx r p => by
  subst p
  cases r
  refine ⟨_, rfl, by omega, by omega, q _ G2 H2 (List.range n) nx rfl ⟨fun i H e2 hi => ?_, fun i x hx H3 G3 e3 e4 => ?_⟩⟩
  · show (n : Int).toNat ≤ i
    rw [List.length_range] at hi; omega
  · have hi := (List.getElem?_eq_some_iff.mp hx).1
    rw [List.length_range] at hi
    rw [List.getElem?_range hi] at hx; cases hx
    refine ⟨by show i < (n : Int).toNat; omega, fun v H' hy => ?_⟩
    obtain ⟨rfl, rfl⟩ := hy
    exact ⟨G3, Nxt.refl e4, by show V.int ((0 : Int) + (i : Int)) = V.int (i : Int); rw [Int.zero_add]⟩
theorem ei_range2 {lo n : Nat} (h : EvD FW.rI ta σ G (lo : Int)) (h2 : EvD FW.rI td σ G (n : Int)) (hn : n ≤ 100000) (hl : lo ≤ 100000) : EvI rN (iRng2 (tCons ta (tCons td tNil))) σ G (fun xs => xs = (List.range (n - lo)).map (lo + ·)) := fun H e Rr q => h H e _ fun v G2 H2 x nx r p => h2.mono nx.g H2 nx.s _ fun w G3 H3 y nx2 r2 p2 => by
  subst p p2
  cases r; cases r2
  refine ⟨_, _, rfl, ⟨by omega, by omega, by omega, by omega⟩, q _ G3 H3 _ (nx.trans nx2) rfl ⟨fun i H e2 hi => ?_, fun i x hx H4 G4 e3 e4 => ?_⟩⟩
  · show ((n : Int) - (lo : Int)).toNat ≤ i
    rw [List.length_map, List.length_range] at hi; omega
  · have hi := (List.getElem?_eq_some_iff.mp hx).1
    rw [List.length_map, List.length_range] at hi
    rw [List.getElem?_map, List.getElem?_range hi] at hx; cases hx
    refine ⟨by show i < ((n : Int) - (lo : Int)).toNat; omega, fun v H' hy => ?_⟩
    obtain ⟨rfl, rfl⟩ := hy
    exact ⟨G4, Nxt.refl e4, by show V.int ((lo : Int) + (i : Int)) = V.int (((lo + i : Nat)) : Int); rw [Int.natCast_add]⟩
theorem ei_str {z : Str} (h : EvD rS ta σ G z) : EvI rS (iStr ta) σ G (fun xs => xs = z.cps.toList.map fun c => (⟨#[c]⟩ : Str)) := fun H e Rr q => h H e _ fun v G2 H2 x nx r p => by
  subst p
  cases r
  refine ⟨x, rfl, q _ G2 H2 _ nx rfl ⟨fun i H e2 hi => ?_, fun i y hy H3 G3 e3 e4 => ?_⟩⟩
  · show x.cps.size ≤ i
    simpa using hi
  · have hi := (List.getElem?_eq_some_iff.mp hy).1
    refine ⟨by show i < x.cps.size; simpa using hi, fun v H' hv => ?_⟩
    obtain ⟨rfl, c, hc, rfl⟩ := hv
    rw [List.getElem?_map, Array.getElem?_toList, hc] at hy
    cases hy
    exact ⟨G3, Nxt.refl e4, rfl⟩
def enum {α : Type} (xs : List α) : List (Nat × α) := xs.zipIdx.map fun z => (z.2, z.1)
theorem enum_get {α : Type} {xs : List α} {i : Nat} : (enum xs)[i]? = xs[i]?.map fun x => (i, x) := by
  unfold enum
  rw [List.getElem?_map, List.getElem?_zipIdx]
  cases xs[i]? <;> simp
theorem enum_len {α : Type} {xs : List α} : (enum xs).length = xs.length := by unfold enum; simp
theorem ei_enum {xs : List α} (h : EvD (rL R) ta σ G xs) : EvI (rT2 rN R) (iEnum K (tCons ta tNil)) σ G (fun ys => ys = enum xs) := fun H e Rr q => h H e _ fun v G2 H2 x nx r p => by
  subst p
  obtain ⟨a, vs, rfl, ha, hp⟩ := r
  refine ⟨a, vs, rfl, SqL.of (nx.s a _ ha), q _ G2 H2 _ nx rfl ⟨fun i H e2 hi => ⟨vs, SqL.of (e2 a _ ha), by rw [pd_len hp]; rwa [enum_len] at hi⟩, fun i y hy H3 G3 e3 e4 => ?_⟩⟩
  rw [enum_get] at hy
  obtain ⟨z, hz, rfl⟩ := Option.map_eq_some_iff.mp hy
  obtain ⟨u, hu, ru⟩ := pd_get hp hz
  refine ⟨⟨vs, u, SqL.of (e4 a _ (e3 a _ ha)), hu⟩, fun v H' hv => ?_⟩
  obtain ⟨T, w, rfl, hT, rfl, hw⟩ := hv
  have := hw vs (SqL.of (e4 a _ (e3 a _ ha)))
  rw [hu] at this; cases this
  have n2 := Nxt.new (o := .tup [.int (i : Nat), u]) e4 hT
  exact ⟨_, n2, T, _, _, rfl, upd_same, rfl, R.ex (e3.trans n2.g) ru⟩
/-- the keys of a locked dict -/
theorem ei_keys {kf : κ → Key} {xs : List (κ × α)} {d : Addr} {od : Obj} {kvs : List (Key × V)} (hk : ∀ G k, RK.is G (kV (kf k)) k) (h : EvD rV td σ G (.ref d)) (hd : G d = some (.frz od (.dK kvs))) (hp : Pd (fun (p : Key × V) (q : κ × α) => p.1 = kf q.1) kvs xs) : EvI RK (iKeys td) σ G (fun ys => ys = xs.map (·.1)) := fun H e Rr q => h H e _ fun v G2 H2 x nx r p => by
  subst p
  cases r
  refine ⟨d, od, rfl, .inl ⟨kvs, nx.h d _ (e d _ hd), q _ G2 H2 _ nx rfl ⟨fun i H e2 hi => ⟨e2 d _ (nx.g d _ hd), by rw [pd_len hp]; rwa [List.length_map] at hi⟩, fun i y hy H3 G3 e3 e4 => ?_⟩⟩⟩
  rw [List.getElem?_map] at hy
  obtain ⟨z, hz, rfl⟩ := Option.map_eq_some_iff.mp hy
  obtain ⟨u, hu, ru⟩ := pd_get hp hz
  refine ⟨⟨e4 d _ (e3 d _ (nx.g d _ hd)), (List.getElem?_eq_some_iff.mp hu).1⟩, fun v H' hv => ?_⟩
  obtain ⟨rfl, k, w, hkw, rfl⟩ := hv
  rw [hu] at hkw; cases hkw
  refine ⟨G3, Nxt.refl e4, ?_⟩
  rw [show k = kf z.1 from ru]
  exact hk _ _
/-! ### list comprehensions -/
theorem ev_lc {wi : TI} {g : TG} {vs : List Nat} {PX : List α → Prop} {p : α → Bool} {F : α → β → Prop} (hi : EvI R wi σ G PX)
    (hb : ∀ xs, PX xs → xs.length ≤ 100000 ∧ ∀ x, x ∈ xs → ∀ G2 v, Ex G G2 → R.is G2 v x → ∃ σ2, Tg g v (wipe σ vs) G2 σ2 ∧ wipe σ2 vs = wipe σ vs ∧ EvT tt σ2 G2 (p x) ∧ (p x = true → EvP S te σ2 G2 (F x))) :
    EvP (rL S) (tLc wi g tt te vs) σ G (fun ys => ∃ xs, PX xs ∧ Pd (fun x y => F x y) (xs.filter p) ys) := fun H e Q q => hi H e _ fun J G1 H1 xs n1 px w D hD => by
  obtain ⟨hl, hb⟩ := hb xs px
  have nm := Nxt.mut (o := .lst []) n1 (n1.h.free hD) (n1.s.free hD)
  refine ⟨fun i m H' => m = xs.length - i ∧ i ≤ xs.length ∧ ∃ G' us ys, Nxt G H G' H' ∧ Ex G1 G' ∧ Own H G' H' D (.lst us) ∧ Pd (S.is G') us ys ∧ Pd (fun x y => F x y) ((xs.take i).filter p) ys,
    ⟨xs.length, by simp, Nat.zero_le _, G1, [], [], nm, Ex.refl _, ⟨n1.h.free hD, n1.s.free hD, upd_same⟩, .nil, .nil⟩, ?_⟩
  rintro i m H' ⟨rfl, hi', G', us, ys, n, e1, own, pu, pf⟩
  by_cases hlt : i < xs.length
  · obtain ⟨hgo, hy⟩ := w.2 i _ (List.getElem?_eq_getElem hlt) H' G' e1 n.s
    refine .inr ⟨hgo, _, fun H'' z => ⟨xs.length - (i + 1), by omega, rfl, hlt, z⟩, fun v H'' hv => ?_⟩
    obtain ⟨G2, n2, rv⟩ := hy v H'' hv
    have nn := n.trans n2
    have own2 := own.nxt n2
    obtain ⟨σ2, hg, hw, ht, he⟩ := hb xs[i] (List.getElem_mem hlt) G2 v nn.g rv
    refine hg H'' n2.s _ ⟨hw, ht H'' n2.s _ fun G3 H3 n3 => ?_⟩
    have own3 := own2.nxt n3
    have et : (xs.take (i + 1)).filter p = (xs.take i).filter p ++ [xs[i]].filter p := by
      rw [List.take_add_one, List.getElem?_eq_getElem hlt, List.filter_append]; rfl
    cases hp : p xs[i] with
    | true =>
      rw [if_pos rfl]
      refine (he hp).mono n3.g H3 n3.s _ fun y G4 H4 z n4 rz fz => ?_
      have own4 := own3.nxt n4
      refine ⟨us, own4.h, ?_, G4, us ++ [y], ys ++ [z], ((nn.trans n3).trans n4).mut own.s own4.g, (e1.trans n2.g).trans (n3.g.trans n4.g), own4.set, pd_snoc (pd_mono (fun _ _ => S.ex (n2.g.trans (n3.g.trans n4.g))) pu) rz, ?_⟩
      · have h1 := pd_len pu
        have h2 := pd_len pf
        have h3 := List.length_filter_le p (xs.take i)
        rw [List.length_take] at h3
        have : (100000 : Nat) < sizeLine := by decide
        omega
      · rw [et, List.filter_cons, if_pos hp, List.filter_nil]
        exact pd_snoc pf fz
    | false =>
      rw [if_neg Bool.false_ne_true]
      refine ⟨G3, us, ys, nn.trans n3, (e1.trans n2.g).trans n3.g, own3, pd_mono (fun _ _ => S.ex (n2.g.trans n3.g)) pu, ?_⟩
      rw [et, List.filter_cons, if_neg (by rw [hp]; exact Bool.false_ne_true), List.filter_nil, List.append_nil]
      exact pf
  · refine .inl ⟨w.1 i H' (e1.trans n.s) (by omega), ?_⟩
    rw [List.take_of_length_le (by omega)] at pf
    have n3 := n.tell own.s own.h own.g
    exact q _ _ _ ys n3 ⟨D, us, rfl, upd_same, pd_mono (fun _ _ => S.ex (Ex.new own.g)) pu⟩ ⟨xs, px, pf⟩
theorem pd_eq_map {α β : Type} {f : α → β} : ∀ {xs : List α} {ys : List β}, Pd (fun x y => y = f x) xs ys → ys = xs.map f
  | _, _, .nil => rfl
  | _, _, .cons a t => by rw [a, pd_eq_map t]; rfl
/-- .. where all is known -/
theorem ev_lcD {wi : TI} {g : TG} {vs : List Nat} {xs : List α} {p : α → Bool} {f : α → β} (hi : EvI R wi σ G (fun ys => ys = xs)) (hl : xs.length ≤ 100000)
    (hb : ∀ x, x ∈ xs → ∀ G2 v, Ex G G2 → R.is G2 v x → ∃ σ2, Tg g v (wipe σ vs) G2 σ2 ∧ wipe σ2 vs = wipe σ vs ∧ EvT tt σ2 G2 (p x) ∧ (p x = true → EvD S te σ2 G2 (f x))) :
    EvD (rL S) (tLc wi g tt te vs) σ G ((xs.filter p).map f) := (ev_lc (F := fun x y => y = f x) (p := p) hi fun ys e => by subst e; exact ⟨hl, hb⟩).imp fun ys h => by
  obtain ⟨_, rfl, h⟩ := h
  exact pd_eq_map h
theorem et_yes : EvT tYes σ G true := fun H e Q q => q G H (Nxt.refl e)
/-- .. without a test -/
theorem ev_lcM {wi : TI} {g : TG} {vs : List Nat} {xs : List α} {f : α → β} (hi : EvI R wi σ G (fun ys => ys = xs)) (hl : xs.length ≤ 100000)
    (hb : ∀ x, x ∈ xs → ∀ G2 v, Ex G G2 → R.is G2 v x → ∃ σ2, Tg g v (wipe σ vs) G2 σ2 ∧ wipe σ2 vs = wipe σ vs ∧ EvD S te σ2 G2 (f x)) :
    EvD (rL S) (tLc wi g tYes te vs) σ G (xs.map f) := by
  have h := ev_lcD (p := fun _ => true) (f := f) (tt := tYes) hi hl fun x hx G2 v e r => by
    obtain ⟨σ2, h1, h2, h3⟩ := hb x hx G2 v e r
    exact ⟨σ2, h1, h2, et_yes, fun _ => h3⟩
  rwa [List.filter_eq_self.mpr (fun _ _ => rfl)] at h
/-! ### dict comprehensions, keys that differ -/
theorem putK_fresh {kvs : List (Key × V)} {k : Key} {v : V} (h : k ∉ kvs.map (·.1)) : putK kvs k v = kvs ++ [(k, v)] := by
  unfold putK
  rw [if_neg]
  intro z
  obtain ⟨p, hp, e⟩ := List.any_eq_true.mp z
  exact h (List.mem_map.mpr ⟨p, hp, of_decide_eq_true e⟩)
theorem ev_dc {tk : TE} {kf : κ → Key} {wi : TI} {g : TG} {vs : List Nat} {PX : List α → Prop} {p : α → Bool} {ky : α → κ} {F : α → β → Prop} (inj : ∀ a b, kf a = kf b → a = b) (hkr : KeyR RK kf) (hi : EvI R wi σ G PX)
    (hb : ∀ xs, PX xs → xs.length ≤ 100000 ∧ (xs.map ky).Nodup ∧ ∀ x, x ∈ xs → ∀ G2 v, Ex G G2 → R.is G2 v x → ∃ σ2, Tg g v (wipe σ vs) G2 σ2 ∧ wipe σ2 vs = wipe σ vs ∧ EvT tt σ2 G2 (p x) ∧ (p x = true → EvD RK tk σ2 G2 (ky x) ∧ EvP S tv σ2 G2 (F x))) :
    EvP (rD kf S) (tDc wi g tt tk tv vs) σ G (fun ys => ∃ xs, PX xs ∧ Pd (fun x y => y.1 = ky x ∧ F x y.2) (xs.filter p) ys) := fun H e Q q => hi H e _ fun J G1 H1 xs n1 px w D hD => by
  obtain ⟨hl, nd, hb⟩ := hb xs px
  have nm := Nxt.mut (o := .dK []) n1 (n1.h.free hD) (n1.s.free hD)
  refine ⟨fun i m H' => m = xs.length - i ∧ i ≤ xs.length ∧ ∃ (G' : Hp) (us : List (Key × V)) (ys : List (κ × β)), Nxt G H G' H' ∧ Ex G1 G' ∧ Own H G' H' D (.dK us) ∧ Pd (Ent kf S G') us ys ∧ Pd (fun x y => y.1 = ky x ∧ F x y.2) ((xs.take i).filter p) ys,
    ⟨xs.length, by simp, Nat.zero_le _, G1, [], [], nm, Ex.refl _, ⟨n1.h.free hD, n1.s.free hD, upd_same⟩, .nil, .nil⟩, ?_⟩
  rintro i m H' ⟨rfl, hi', G', us, ys, n, e1, own, pu, pf⟩
  by_cases hlt : i < xs.length
  · obtain ⟨hgo, hy⟩ := w.2 i _ (List.getElem?_eq_getElem hlt) H' G' e1 n.s
    refine .inr ⟨hgo, _, fun H'' z => ⟨xs.length - (i + 1), by omega, rfl, hlt, z⟩, fun v H'' hv => ?_⟩
    obtain ⟨G2, n2, rv⟩ := hy v H'' hv
    have nn := n.trans n2
    have own2 := own.nxt n2
    obtain ⟨σ2, hg, hw, ht, he⟩ := hb xs[i] (List.getElem_mem hlt) G2 v nn.g rv
    refine hg H'' n2.s _ ⟨hw, ht H'' n2.s _ fun G3 H3 n3 => ?_⟩
    have own3 := own2.nxt n3
    have et : (xs.take (i + 1)).filter p = (xs.take i).filter p ++ [xs[i]].filter p := by
      rw [List.take_add_one, List.getElem?_eq_getElem hlt, List.filter_append]; rfl
    cases hp : p xs[i] with
    | true =>
      rw [if_pos rfl]
      obtain ⟨hk, hv⟩ := he hp
      refine hk.mono n3.g H3 n3.s _ fun y G4 H4 z n4 rz fz => ?_
      subst fz
      refine hv.mono (n3.g.trans n4.g) H4 n4.s _ fun y2 G5 H5 z2 n5 rz2 fz2 => ?_
      have own5 := (own3.nxt n4).nxt n5
      have hnew : kf (ky xs[i]) ∉ us.map (·.1) := fun hm => by
        obtain ⟨u, hu, eu⟩ := List.mem_map.mp hm
        obtain ⟨z, hz, ez, _⟩ := pd_mem pu hu
        have hz2 : ∃ x, x ∈ (xs.take i).filter p ∧ z.1 = ky x := by
          obtain ⟨j, hj⟩ := List.mem_iff_getElem?.mp hz
          obtain ⟨x, hx, ex, _⟩ := pd_get pf hj
          exact ⟨x, List.mem_of_getElem? hx, ex⟩
        obtain ⟨x, hx, ex⟩ := hz2
        have hx2 : x ∈ xs.take i := (List.mem_filter.mp hx).1
        have e1 : ky x = ky xs[i] := inj _ _ (by rw [← ex, ← ez, eu])
        obtain ⟨j, hj⟩ := List.mem_iff_getElem?.mp hx2
        rw [List.getElem?_take] at hj
        by_cases hji : j < i
        · rw [if_pos hji] at hj
          have h1 : (xs.map ky)[j]? = some (ky x) := by rw [List.getElem?_map, hj]; rfl
          have h2 : (xs.map ky)[i]? = some (ky xs[i]) := by rw [List.getElem?_map, List.getElem?_eq_getElem hlt]; rfl
          have := (List.getElem?_inj (by rw [List.length_map]; omega) nd).mp (h1.trans (by rw [h2, e1]))
          omega
        · rw [if_neg hji] at hj; cases hj
      refine ⟨us, kf (ky xs[i]), hkr _ _ _ rz, own5.h, ?_, G5, us ++ [(kf (ky xs[i]), y2)], ys ++ [(ky xs[i], z2)], ?_, (e1.trans n2.g).trans (n3.g.trans (n4.g.trans n5.g)), ?_, pd_snoc (pd_mono (fun _ _ h => ⟨h.1, S.ex (n2.g.trans (n3.g.trans (n4.g.trans n5.g))) h.2⟩) pu) ⟨rfl, rz2⟩, ?_⟩
      · have h1 := pd_len pu
        have h2 := pd_len pf
        have h3 := List.length_filter_le p (xs.take i)
        rw [List.length_take] at h3
        have : (100000 : Nat) < sizeLine := by decide
        omega
      · rw [putK_fresh hnew]
        exact (((nn.trans n3).trans n4).trans n5).mut own.s own5.g
      · rw [putK_fresh hnew]
        exact own5.set
      · rw [et, List.filter_cons, if_pos hp, List.filter_nil]
        exact pd_snoc pf ⟨rfl, fz2⟩
    | false =>
      rw [if_neg Bool.false_ne_true]
      refine ⟨G3, us, ys, nn.trans n3, (e1.trans n2.g).trans n3.g, own3, pd_mono (fun _ _ h => ⟨h.1, S.ex (n2.g.trans n3.g) h.2⟩) pu, ?_⟩
      rw [et, List.filter_cons, if_neg (by rw [hp]; exact Bool.false_ne_true), List.filter_nil, List.append_nil]
      exact pf
  · refine .inl ⟨w.1 i H' (e1.trans n.s) (by omega), ?_⟩
    rw [List.take_of_length_le (by omega)] at pf
    have n3 := n.tell own.s own.h own.g
    exact q _ _ _ ys n3 ⟨D, us, rfl, upd_same, pd_mono (fun _ _ h => ⟨h.1, S.ex (Ex.new own.g) h.2⟩) pu⟩ ⟨xs, px, pf⟩
/-! ### a dict locked while it is walked -/
theorem nxt_unlock {H G2 H2 : Hp} {d : Addr} {u : HO} {od : Obj} (hd : G d = some u) (e : Ex G H) (n : Nxt (upd G d (.frz od u)) (upd H d (.frz od u)) G2 H2) : Nxt G H (upd G2 d u) (upd H2 d u) := by
  refine ⟨fun a o h => ?_, fun a o h => ?_, n.s.upd2, fun a o h => ?_⟩
  · by_cases z : a = d
    · subst z; rw [hd] at h; cases h; exact upd_same
    · rw [upd_ne z]; exact n.g a o (by rw [upd_ne z]; exact h)
  · by_cases z : a = d
    · subst z; rw [e a u hd] at h; cases h; exact upd_same
    · rw [upd_ne z]; exact n.h a o (by rw [upd_ne z]; exact h)
  · by_cases z : a = d
    · subst z; rw [upd_same] at h; cases h; exact .inl hd
    · rw [upd_ne z] at h
      rcases n.f a o h with q | q
      · rw [upd_ne z] at q; exact .inl q
      · rw [upd_ne z] at q; exact .inr q
theorem mut_isD {u : HO} (h : isD u = true) : Mut (some u) := by
  cases u <;> first | trivial | cases h
theorem ev_lock {P : ε → Prop} {d : Addr} {u : HO} (lk : Lk Z) (hd : G d = some u) (hu : isD u = true) (h : ∀ od, EvP Z te σ (upd G d (.frz od u)) P) : EvP Z (tLockE te) σ G P := fun H e Q q =>
  ⟨d, u, e d u hd, mut_isD hu, fun od => h od _ e.upd2 _ fun v G2 H2 x n r p => by
    have h1 : H2 d = some (.frz od u) := n.h d _ upd_same
    have h2 : G2 d = some (.frz od u) := n.g d _ upd_same
    exact ⟨h1, q v _ _ x (nxt_unlock hd e n) (lk (Le.unlock h2 hu) r) p⟩⟩
/-! ### statements -/
variable {D : Ends} {H : Hp} {tu tw : TS} {g : TG}
theorem s_asgP {i : Nat} {PA : α → Prop} (h : EvP R te σ G PA) (e : Ex G H) (k : ∀ v G2 H2 x, Nxt G H G2 H2 → R.is G2 v x → PA x → D.nx (σ.set i (some v)) H2) : tAsg te (gName i) D σ H := h H e _ fun v G2 H2 x n r p => k v G2 H2 x n r p
theorem s_asg {i : Nat} {x : α} (h : EvD R te σ G x) (e : Ex G H) (k : ∀ v G2 H2, Nxt G H G2 H2 → R.is G2 v x → D.nx (σ.set i (some v)) H2) : tAsg te (gName i) D σ H := h H e _ fun v G2 H2 y n r p => by subst p; exact k v G2 H2 n r
/-- an assignment to more than a name -/
theorem s_asgT {PA : α → Prop} (h : EvP R te σ G PA) (e : Ex G H) (k : ∀ v G2 H2 x, Nxt G H G2 H2 → R.is G2 v x → PA x → ∃ σ2, Tg g v σ G2 σ2 ∧ D.nx σ2 H2) : tAsg te g D σ H := h H e _ fun v G2 H2 x n r p => by
  obtain ⟨σ2, h1, h2⟩ := k v G2 H2 x n r p
  exact h1 H2 n.s _ h2
theorem s_retP {PA : α → Prop} (h : EvP R te σ G PA) (e : Ex G H) (k : ∀ v G2 H2 x, Nxt G H G2 H2 → R.is G2 v x → PA x → D.rt v H2) : tRet te D σ H := h H e _ k
theorem s_ret {x : α} (h : EvD R te σ G x) (e : Ex G H) (k : ∀ v G2 H2, Nxt G H G2 H2 → R.is G2 v x → D.rt v H2) : tRet te D σ H := h H e _ fun v G2 H2 y n r p => by subst p; exact k v G2 H2 n r
theorem s_if {b : Bool} (h : EvT t σ G b) (e : Ex G H) (h1 : b = true → ∀ G2 H2, Nxt G H G2 H2 → tu D σ H2) (h2 : b = false → ∀ G2 H2, Nxt G H G2 H2 → tw D σ H2) : tIfS t tu tw D σ H := h H e _ fun G2 H2 n => by
  cases b with
  | true =>
    show tu D σ H2
    exact h1 rfl G2 H2 n
  | false =>
    show tw D σ H2
    exact h2 rfl G2 H2 n
theorem s_dropP {PA : α → Prop} (h : EvP R te σ G PA) (e : Ex G H) (k : ∀ v G2 H2 x, Nxt G H G2 H2 → R.is G2 v x → PA x → D.nx σ H2) : tDrop te D σ H := h H e _ k
/-- [], {}: a new object of ours -/
theorem s_newL {i : Nat} (e : Ex G H) (k : ∀ l H2, Nxt G H G H2 → Own H G H2 l (.lst []) → D.nx (σ.set i (some (.ref l))) H2) : tAsg (tLst tNil) (gName i) D σ H :=
  ⟨Nat.zero_le _, fun l hl => k l _ ((Nxt.refl e).mut hl (e.free hl)) ⟨hl, e.free hl, upd_same⟩⟩
theorem s_newK {i : Nat} (e : Ex G H) (k : ∀ l H2, Nxt G H G H2 → Own H G H2 l (.dK []) → D.nx (σ.set i (some (.ref l))) H2) : tAsg tDNewK (gName i) D σ H :=
  fun l hl => k l _ ((Nxt.refl e).mut hl (e.free hl)) ⟨hl, e.free hl, upd_same⟩
theorem s_newT {i : Nat} (e : Ex G H) (k : ∀ l H2, Nxt G H G H2 → Own H G H2 l (.dT []) → D.nx (σ.set i (some (.ref l))) H2) : tAsg tDNewT (gName i) D σ H :=
  fun l hl => k l _ ((Nxt.refl e).mut hl (e.free hl)) ⟨hl, e.free hl, upd_same⟩
theorem Own.old {Hs Hs' G G2 H : Hp} {l : Addr} {o : HO} (e : Ex Hs' Hs) (a : Own Hs G H l o) : Own Hs' G H l o := ⟨e.free a.s, a.g, a.h⟩
/-- l.append(e), l of ours -/
theorem s_app {Hs : Hp} {l : Addr} {us : List V} {i : Nat} {PA : α → Prop} (own : Own Hs G H l (.lst us)) (hi : σ[i]? = some (some (.ref l))) (h : EvP R te σ G PA) (e : Ex G H) (hz : us.length < 100000)
    (k : ∀ v G2 H2 x, Nxt G H G2 H2 → R.is G2 v x → PA x → Own Hs G2 (upd H2 l (.lst (us ++ [v]))) l (.lst (us ++ [v])) → D.nx σ (upd H2 l (.lst (us ++ [v])))) :
    tDrop (tBM K "list" rAppend (tVar i) (tCons te tNil)) D σ H := ⟨.ref l, hi, .inl ⟨rfl, us, SqL.of own.h⟩, h H e _ fun v G2 H2 x n r p =>
  ⟨l, us, v, rfl, rfl, (own.nxt n).h, Nat.lt_of_lt_of_le hz (by decide), k v G2 H2 x n r p (own.nxt n).set⟩⟩
/-- d[k] = v, d of ours -/
theorem s_dput {Hs : Hp} {l : Addr} {us : List (Key × V)} {i : Nat} {kf : κ → Key} {x : κ} {PA : α → Prop} (hkr : KeyR RK kf) (own : Own Hs G H l (.dK us)) (hi : σ[i]? = some (some (.ref l))) (hv : EvP R tv σ G PA) (hk : EvD RK ty σ G x) (e : Ex G H) (hz : us.length < 100000)
    (k : ∀ v G2 H2 y, Nxt G H G2 H2 → R.is G2 v y → PA y → Own Hs G2 (upd H2 l (.dK (putK us (kf x) v))) l (.dK (putK us (kf x) v)) → D.nx σ (upd H2 l (.dK (putK us (kf x) v)))) :
    sDPut (tVar i) ty tv D σ H := hv H e _ fun v G2 H2 y n r p => ⟨.ref l, hi, hk.mono n.g H2 n.s _ fun w G3 H3 z n2 r2 p2 => by
  subst p2
  have own3 := (own.nxt n).nxt n2
  exact ⟨l, _, rfl, .inl ⟨us, kf z, own3.h, hkr _ _ _ r2, Nat.lt_of_lt_of_le hz (by decide), rfl⟩, k v G3 H3 y (n.trans n2) (R.ex n2.g r) p own3.set⟩⟩
theorem s_dputT {Hs : Hp} {l : Addr} {us : List (List Key × V)} {i : Nat} {kf : κ → List Key} {x : κ} {PA : α → Prop} (hkr : KeyT RK kf) (own : Own Hs G H l (.dT us)) (hi : σ[i]? = some (some (.ref l))) (hv : EvP R tv σ G PA) (hk : EvD RK ty σ G x) (e : Ex G H) (hz : us.length < 100000)
    (k : ∀ v G2 H2 y, Nxt G H G2 H2 → R.is G2 v y → PA y → Own Hs G2 (upd H2 l (.dT (putK us (kf x) v))) l (.dT (putK us (kf x) v)) → D.nx σ (upd H2 l (.dT (putK us (kf x) v)))) :
    sDPut (tVar i) ty tv D σ H := hv H e _ fun v G2 H2 y n r p => ⟨.ref l, hi, hk.mono n.g H2 n.s _ fun w G3 H3 z n2 r2 p2 => by
  subst p2
  have own3 := (own.nxt n).nxt n2
  obtain ⟨b, rfl, hb⟩ := hkr _ _ _ r2
  exact ⟨l, _, rfl, .inr ⟨us, kf z, b, own3.h, rfl, n2.s b _ hb, Nat.lt_of_lt_of_le hz (by decide), rfl⟩, k v G3 H3 y (n.trans n2) (R.ex n2.g r) p own3.set⟩⟩
/-- a for: Pv of the turn, the slots, G and the heap -/
theorem s_for {wi : TI} {PX : List α → Prop} (hi : EvI R wi σ G PX) (e : Ex G H)
    (k : ∀ xs G1 H1, PX xs → Nxt G H G1 H1 → ∃ Pv : Nat → L2.St → Hp → Hp → Prop, Pv 0 σ G1 H1 ∧
      (∀ i x σ' G' H', xs[i]? = some x → Ex G1 G' → Ex G' H' → Pv i σ' G' H' → ∀ v G2 H2, Nxt G' H' G2 H2 → R.is G2 v x →
        g v σ' H2 fun σ2 H3 => tu { D with nx := fun σ3 H4 => ∃ G4, Ex G1 G4 ∧ Ex G4 H4 ∧ Pv (i + 1) σ3 G4 H4, ct := fun σ3 H4 => ∃ G4, Ex G1 G4 ∧ Ex G4 H4 ∧ Pv (i + 1) σ3 G4 H4, bk := D.nx } σ2 H3) ∧
      (∀ σ' G' H', Ex G1 G' → Ex G' H' → Pv xs.length σ' G' H' → D.nx σ' H')) : tFor wi g tu D σ H := hi H e _ fun J G1 H1 xs n1 px w => by
  obtain ⟨Pv, h0, hs, hd⟩ := k xs G1 H1 px n1
  refine ⟨fun i m σ' H' => m = xs.length - i ∧ i ≤ xs.length ∧ ∃ G', Ex G1 G' ∧ Ex G' H' ∧ Pv i σ' G' H', ⟨xs.length, by simp, Nat.zero_le _, G1, Ex.refl _, n1.s, h0⟩, ?_⟩
  rintro i m σ' H' ⟨rfl, hi', G', e1, e2, p⟩
  by_cases hlt : i < xs.length
  · obtain ⟨hgo, hy⟩ := w.2 i _ (List.getElem?_eq_getElem hlt) H' G' e1 e2
    refine .inr ⟨hgo, fun σ3 H4 => ∃ G4, Ex G1 G4 ∧ Ex G4 H4 ∧ Pv (i + 1) σ3 G4 H4, fun σ'' H'' z => ⟨xs.length - (i + 1), by omega, rfl, hlt, z⟩, fun v H'' hv => ?_⟩
    obtain ⟨G2, n2, rv⟩ := hy v H'' hv
    exact hs i _ σ' G' H' (List.getElem?_eq_getElem hlt) e1 e2 p v G2 H'' n2 rv
  · have ei : i = xs.length := by omega
    subst ei
    exact .inl ⟨w.1 _ H' (e1.trans e2) (by omega), hd σ' G' H' e1 e2 p⟩
end
end FW
/-! THE HEAD: the defs and facts by names, one kernel run of the top. -/
namespace Hd
open PySem PySem.Spec PyProof.Rows L2

/-! ### addresses by names -/
abbrev Adr : Type := PySem.W.Frag → Addr
def gf (x : Str) : Adr := fun K => He.ga K x
def mf (c m : Str) : Adr := fun K => He.ma K (He.ga K c) m
/-- the getter of a property -/
def pgOf (K : PySem.W.Frag) (p : Addr) : Addr := match PySem.W.recIn K p "property" with
  | some (.ref g :: _) => g
  | _ => 0
def pg (c m : Str) : Adr := fun K => pgOf K (He.ma K (He.ga K c) m)
structure DA where
  adr : Adr
  name : Str
  qual : Str
  st : Stmt
abbrev FnV : Type := Option (Str × Str × Arguments × FuncBody × Scope × Addr × List (Str × Addr) × Value × Addr)
def fnAt (K : PySem.W.Frag) (a : Addr) : FnV := match K.lookup a with
  | some ⟨_, _, .func fd, _⟩ => some (fd.name, fd.qualname, fd.params, fd.body, fd.scope, fd.globals, fd.closure, fd.defaults, fd.builtins)
  | _ => none
def DA.val (d : DA) : FnV := some (d.name, d.qual, defArgs d.st, .stmts (defBody d.st), defScope d.st, mainGlobals, [], .none, builtinsNs)
def DA.ok (K : PySem.W.Frag) (d : DA) : Bool := PySem.W.keepIn K (.ref (d.adr K)) && (match K.lookup (d.adr K) with
  | some ⟨_, _, .func fd, _⟩ => PySem.W.codeIn K fd.code d.qual
  | _ => false)
theorem DA.fun {K : PySem.W.Frag} {d : DA} (e : fnAt K (d.adr K) = d.val) (c : d.ok K = true) : ∃ fd, Fun K d.name d.qual d.st (d.adr K) fd := by
  obtain ⟨kp, c2⟩ := He.ba c
  unfold fnAt at e
  cases q : K.lookup (d.adr K) with
  | none =>
    rw [q] at c2
    cases c2
  | some o =>
    obtain ⟨oc, od, dt, osl⟩ := o
    rw [q] at c2 e
    cases dt with
    | func fd =>
      obtain ⟨n1, n2, n3, n4, n5, n6, n7, n8, n9, n10, n11, n12, n13, n14, n15⟩ := fd
      have e2 : (some (n1, n2, n3, n4, n5, n6, n7, n8, n15) : FnV) = some (d.name, d.qual, defArgs d.st, .stmts (defBody d.st), defScope d.st, mainGlobals, [], .none, builtinsNs) := e
      simp only [Option.some.injEq, Prod.mk.injEq] at e2
      obtain ⟨h1, h2, h3, h4, h5, h6, h7, h8, h9⟩ := e2
      subst h1 h2 h3 h4 h5 h6 h7 h8 h9
      exact ⟨_, ⟨oc, od, n9, n10, n11, n12, n13, n14, osl, rfl, q, c2⟩, kp⟩
    | _ => cases c2
/-- a property's facts -/
def propB (K : PySem.W.Frag) (c m : Str) : Bool := He.eqO (PySem.W.findIn K (.ref (He.ga K c)) m) (some (some (.ref (He.ma K (He.ga K c) m)))) &&
  (He.eqO (PySem.W.specialIn K (.ref (He.ma K (He.ga K c) m)) "__get__") (some (some (.builtin "property.__get__"))) && (decide (PySem.W.takesIn K (.ref (He.ma K (He.ga K c) m)) = some true) &&
  (match PySem.W.recIn K (He.ma K (He.ga K c) m) "property" with
    | some (.ref _ :: _) => true
    | _ => false)))
theorem propB_ok {K : PySem.W.Frag} {c m : Str} (h : propB K c m = true) : PropOf K (He.ga K c) m (He.ma K (He.ga K c) m) (pg c m K) := by
  obtain ⟨h1, h2⟩ := He.ba h
  obtain ⟨h3, h4⟩ := He.ba h2
  obtain ⟨h5, h6⟩ := He.ba h4
  refine ⟨He.eqO_ok h1, He.eqO_ok h3, of_decide_eq_true h5, ?_⟩
  cases q : PySem.W.recIn K (He.ma K (He.ga K c) m) "property" with
  | none =>
    rw [q] at h6
    cases h6
  | some l =>
    rw [q] at h6
    cases l with
    | nil => cases h6
    | cons u r =>
      cases u with
      | ref g =>
        refine ⟨r, ?_⟩
        have e : pg c m K = g := by
          unfold pg pgOf
          rw [q]
        rw [e]
      | _ => cases h6
/-! ### the Hook -/
abbrev Al : Type := Bool × List FnV
def obsK (fa : List He.Fa) (pr : List (Str × Str)) (fn : List DA) (K : PySem.W.Frag) : Al := (((fa.all fun f => f.ok K) && pr.all fun p => propB K p.1 p.2) && fn.all fun d => d.ok K, fn.map fun d => fnAt K (d.adr K))
def valK (fn : List DA) : Al := (true, fn.map DA.val)
def Says (fa : List He.Fa) (pr : List (Str × Str)) (fn : List DA) (K : PySem.W.Frag) : Prop := obsK fa pr fn K = valK fn
/-- what an object names, as far as the end needs it -/
def refsM (o : Obj) : List Addr := match o.data with
  | .dict es _ => es.toList.flatMap fun e => He.refV e.val
  | .func fd => He.refV fd.code
  | .cls cd => [cd.ns]
  | .fields vs => (match o.cls with
    | .type "property" => vs.toList.flatMap He.refV
    | _ => [])
  | _ => []
def level (g : Addr → Option Obj) : Nat → List Addr → List Addr
  | 0, as => as
  | n + 1, as => as ++ level g n (as.flatMap fun a => match g a with
    | some o => refsM o
    | none => [])
def asM (g : Addr → Option Obj) (n : Nat) : List Addr := level g n [mainGlobals]
def obsG (n : Nat) (fa : List He.Fa) (pr : List (Str × Str)) (fn : List DA) (g : Addr → Option Obj) : Al := obsK fa pr fn (He.frG g (asM g n))
def hook (n : Nat) (fa : List He.Fa) (pr : List (Str × Str)) (fn : List DA) : PySem.W.Hook where
  α := Al
  obs := fun s => obsG n fa pr fn s.heap.get?
  val := fun _ => valK fn
  says := fun _ h => ∃ K : PySem.W.Frag, K.In h ∧ Says fa pr fn K
  of := fun _ _ e => ⟨_, He.frG_in, e⟩
  keeps := fun _ _ _ ⟨K, hK, c⟩ k => ⟨K, PySem.W.Frag.In.keeps hK k, c⟩
theorem obsG_eq {n : Nat} {fa : List He.Fa} {pr : List (Str × Str)} {fn : List DA} {g : Addr → Option Obj} {s : Shared} (h : ∀ a, g a = s.heap.get? a) : obsG n fa pr fn g = (hook n fa pr fn).obs s := by
  have e : g = s.heap.get? := funext h
  rw [e] <;> rfl
section
variable {fa : List He.Fa} {pr : List (Str × Str)} {fn : List DA} {K : PySem.W.Frag}
theorem Says.bools (c : Says fa pr fn K) : (((fa.all fun f => f.ok K) && pr.all fun p => propB K p.1 p.2) && fn.all fun d => d.ok K) = true := congrArg (fun z : Al => z.1) c
theorem Says.fact (c : Says fa pr fn K) {f : He.Fa} (h : f ∈ fa) : f.ok K = true := List.all_eq_true.mp (He.ba (He.ba c.bools).1).1 f h
theorem Says.prop (c : Says fa pr fn K) {p : Str × Str} (h : p ∈ pr) : propB K p.1 p.2 = true := List.all_eq_true.mp (He.ba (He.ba c.bools).1).2 p h
theorem Says.def_ (c : Says fa pr fn K) (i : Nat) {d : DA} (h : fn[i]? = some d := by rfl) : ∃ fd, Fun K d.name d.qual d.st (d.adr K) fd := by
  have e : fn.map (fun d => fnAt K (d.adr K)) = fn.map DA.val := congrArg (fun z : Al => z.2) c
  have e2 : (fn.map fun d => fnAt K (d.adr K))[i]? = (fn.map DA.val)[i]? := by rw [e]
  rw [List.getElem?_map, List.getElem?_map, h] at e2
  exact DA.fun (Option.some.inj e2) (List.all_eq_true.mp (He.ba c.bools).2 d (List.mem_of_getElem? h))
end
/-! ### the text by places (printed by gen_head.py) -/
def topS (i : Nat) : Stmt := PySem.Challenge.pw_risingbars_k73_whole_logs_that_say_the_s.main.body.getD i (.Pass ⟨0, 0, 0, 0⟩)
abbrev s_check_items : Stmt := topS 13
abbrev s_links_in : Stmt := topS 14
abbrev s_in_turn : Stmt := topS 15
abbrev s_links_of : Stmt := topS 16
abbrev s_ends_of : Stmt := topS 17
abbrev s_lengths_to : Stmt := topS 18
abbrev s_first_way : Stmt := topS 19
abbrev s_way_between : Stmt := topS 20
abbrev s_reached : Stmt := topS 21
abbrev s_better_by : Stmt := topS 22
abbrev s_worse_than : Stmt := topS 23
abbrev s_covers_of : Stmt := topS 24
abbrev s_least_links : Stmt := topS 25
abbrev s_Explanation_init : Stmt := inClass (topS 27) 0
abbrev s_ring_of : Stmt := topS 28
abbrev s_depths_of : Stmt := topS 29
abbrev s_greatest_below : Stmt := topS 30
abbrev s_bars_of : Stmt := topS 31
abbrev s_explanation : Stmt := topS 32
abbrev s_check_alike : Stmt := topS 34
abbrev s_has_ring : Stmt := topS 35
abbrev s_has_all : Stmt := topS 36
abbrev s_says_all : Stmt := topS 37
abbrev s_say_same : Stmt := topS 38
abbrev s_outer_answers : Stmt := topS 39
abbrev s_is_same_by : Stmt := topS 40
abbrev s_needless_answers : Stmt := topS 41
abbrev s_thinned : Stmt := topS 42
abbrev s_is_name : Stmt := topS 54
abbrev s_is_drift : Stmt := topS 55
abbrev s_are_names : Stmt := topS 56
abbrev s_is_event : Stmt := topS 57
abbrev s_Log_init : Stmt := inClass (topS 58) 0
abbrev s_Log_item_names : Stmt := inClass (topS 58) 1
abbrev s_Log_grades : Stmt := inClass (topS 58) 2
abbrev s_Log_judges : Stmt := inClass (topS 58) 3
abbrev s_Log_drift_of : Stmt := inClass (topS 58) 5
abbrev s_Log_is_answer : Stmt := inClass (topS 58) 6
abbrev s_Log_answers : Stmt := inClass (topS 58) 7
abbrev s_Log_answers_of : Stmt := inClass (topS 58) 8
abbrev s_Log_answer_at : Stmt := inClass (topS 58) 9
abbrev s_Log_judge_at : Stmt := inClass (topS 58) 10
abbrev s_Log_item_at : Stmt := inClass (topS 58) 11
abbrev s_Log_grade_at : Stmt := inClass (topS 58) 12
abbrev s_Log_span_at : Stmt := inClass (topS 58) 13
abbrev s_Log_stretch_at : Stmt := inClass (topS 58) 14
abbrev s_Log_stretch_of : Stmt := inClass (topS 58) 15
abbrev s_Log_stretches : Stmt := inClass (topS 58) 16
abbrev s_Log_with_events : Stmt := inClass (topS 58) 20
abbrev s_Log_check_event : Stmt := inClass (topS 58) 21
abbrev s_Log_with_event_at : Stmt := inClass (topS 58) 22
abbrev s_Log_only : Stmt := inClass (topS 58) 26
abbrev s_Log_with_judges : Stmt := inClass (topS 58) 29
abbrev s_Log_with_drift : Stmt := inClass (topS 58) 32
abbrev s_Log_backwards : Stmt := inClass (topS 58) 33
abbrev s_law_row : Stmt := topS 60
abbrev s_law_numbers : Stmt := topS 61
abbrev s_law_log : Stmt := topS 62
abbrev s_law_made : Stmt := topS 63
abbrev s_law : Stmt := topS 64
def d_list : List DA := [
  ⟨gf "check_items", "check_items", "check_items", s_check_items⟩,
  ⟨gf "links_in", "links_in", "links_in", s_links_in⟩,
  ⟨gf "in_turn", "in_turn", "in_turn", s_in_turn⟩,
  ⟨gf "links_of", "links_of", "links_of", s_links_of⟩,
  ⟨gf "ends_of", "ends_of", "ends_of", s_ends_of⟩,
  ⟨gf "lengths_to", "lengths_to", "lengths_to", s_lengths_to⟩,
  ⟨gf "first_way", "first_way", "first_way", s_first_way⟩,
  ⟨gf "way_between", "way_between", "way_between", s_way_between⟩,
  ⟨gf "reached", "reached", "reached", s_reached⟩,
  ⟨gf "better_by", "better_by", "better_by", s_better_by⟩,
  ⟨gf "worse_than", "worse_than", "worse_than", s_worse_than⟩,
  ⟨gf "covers_of", "covers_of", "covers_of", s_covers_of⟩,
  ⟨gf "least_links", "least_links", "least_links", s_least_links⟩,
  ⟨mf "Explanation" "__init__", "__init__", "Explanation.__init__", s_Explanation_init⟩,
  ⟨gf "ring_of", "ring_of", "ring_of", s_ring_of⟩,
  ⟨gf "depths_of", "depths_of", "depths_of", s_depths_of⟩,
  ⟨gf "greatest_below", "greatest_below", "greatest_below", s_greatest_below⟩,
  ⟨gf "bars_of", "bars_of", "bars_of", s_bars_of⟩,
  ⟨gf "explanation", "explanation", "explanation", s_explanation⟩,
  ⟨gf "check_alike", "check_alike", "check_alike", s_check_alike⟩,
  ⟨gf "has_ring", "has_ring", "has_ring", s_has_ring⟩,
  ⟨gf "has_all", "has_all", "has_all", s_has_all⟩,
  ⟨gf "says_all", "says_all", "says_all", s_says_all⟩,
  ⟨gf "say_same", "say_same", "say_same", s_say_same⟩,
  ⟨gf "outer_answers", "outer_answers", "outer_answers", s_outer_answers⟩,
  ⟨gf "is_same_by", "is_same_by", "is_same_by", s_is_same_by⟩,
  ⟨gf "needless_answers", "needless_answers", "needless_answers", s_needless_answers⟩,
  ⟨gf "thinned", "thinned", "thinned", s_thinned⟩,
  ⟨gf "is_name", "is_name", "is_name", s_is_name⟩,
  ⟨gf "is_drift", "is_drift", "is_drift", s_is_drift⟩,
  ⟨gf "are_names", "are_names", "are_names", s_are_names⟩,
  ⟨gf "is_event", "is_event", "is_event", s_is_event⟩,
  ⟨mf "Log" "__init__", "__init__", "Log.__init__", s_Log_init⟩,
  ⟨pg "Log" "item_names", "item_names", "Log.item_names", s_Log_item_names⟩,
  ⟨pg "Log" "grades", "grades", "Log.grades", s_Log_grades⟩,
  ⟨pg "Log" "judges", "judges", "Log.judges", s_Log_judges⟩,
  ⟨mf "Log" "drift_of", "drift_of", "Log.drift_of", s_Log_drift_of⟩,
  ⟨mf "Log" "is_answer", "is_answer", "Log.is_answer", s_Log_is_answer⟩,
  ⟨mf "Log" "answers", "answers", "Log.answers", s_Log_answers⟩,
  ⟨mf "Log" "answers_of", "answers_of", "Log.answers_of", s_Log_answers_of⟩,
  ⟨mf "Log" "answer_at", "answer_at", "Log.answer_at", s_Log_answer_at⟩,
  ⟨mf "Log" "judge_at", "judge_at", "Log.judge_at", s_Log_judge_at⟩,
  ⟨mf "Log" "item_at", "item_at", "Log.item_at", s_Log_item_at⟩,
  ⟨mf "Log" "grade_at", "grade_at", "Log.grade_at", s_Log_grade_at⟩,
  ⟨mf "Log" "span_at", "span_at", "Log.span_at", s_Log_span_at⟩,
  ⟨mf "Log" "stretch_at", "stretch_at", "Log.stretch_at", s_Log_stretch_at⟩,
  ⟨mf "Log" "stretch_of", "stretch_of", "Log.stretch_of", s_Log_stretch_of⟩,
  ⟨mf "Log" "stretches", "stretches", "Log.stretches", s_Log_stretches⟩,
  ⟨mf "Log" "with_events", "with_events", "Log.with_events", s_Log_with_events⟩,
  ⟨mf "Log" "check_event", "check_event", "Log.check_event", s_Log_check_event⟩,
  ⟨mf "Log" "with_event_at", "with_event_at", "Log.with_event_at", s_Log_with_event_at⟩,
  ⟨mf "Log" "only", "only", "Log.only", s_Log_only⟩,
  ⟨mf "Log" "with_judges", "with_judges", "Log.with_judges", s_Log_with_judges⟩,
  ⟨mf "Log" "with_drift", "with_drift", "Log.with_drift", s_Log_with_drift⟩,
  ⟨mf "Log" "backwards", "backwards", "Log.backwards", s_Log_backwards⟩,
  ⟨gf "_law_row", "_law_row", "_law_row", s_law_row⟩,
  ⟨gf "_law_numbers", "_law_numbers", "_law_numbers", s_law_numbers⟩,
  ⟨gf "_law_log", "_law_log", "_law_log", s_law_log⟩,
  ⟨gf "_law_made", "_law_made", "_law_made", s_law_made⟩,
  ⟨gf "law", "law", "law", s_law⟩]
def loose0 : List PySem.Str := ["_wall", "BarError", "InvalidLog", "InvalidDrift", "Unexplained", "UnlikeLogs", "TooLarge", "UnknownItem", "UnknownJudge", "InvalidPlace", "InvalidGrade", "check_items", "links_in", "in_turn", "links_of", "ends_of", "lengths_to", "first_way", "way_between", "reached", "better_by", "worse_than", "covers_of", "least_links", "Explanation", "ring_of", "depths_of", "greatest_below", "bars_of", "explanation"]
def loose1 : List PySem.Str := ["check_alike", "has_ring", "has_all", "says_all", "say_same", "outer_answers", "is_same_by", "needless_answers", "thinned", "LETTERS", "RISES", "FALLS", "STAYS", "ANSWER", "RESET", "MOST_ITEMS", "MOST_JUDGES", "MOST_EVENTS", "MOST_GRADE", "is_name", "is_drift", "are_names", "is_event", "Log", "_law_row", "_law_numbers", "_law_log", "_law_made"]
def loose : List PySem.Str := loose0 ++ loose1

def f_list0 : List He.Fa := [.glo "check_items", .glo "links_in", .glo "in_turn", .glo "links_of", .glo "ends_of", .glo "lengths_to", .glo "first_way", .glo "way_between", .glo "reached", .glo "better_by", .glo "worse_than", .glo "covers_of", .glo "least_links", .glo "ring_of", .glo "depths_of", .glo "greatest_below", .glo "bars_of", .glo "explanation", .glo "check_alike", .glo "has_ring", .glo "has_all", .glo "says_all", .glo "say_same", .glo "outer_answers", .glo "is_same_by", .glo "needless_answers", .glo "thinned", .glo "is_name", .glo "is_drift", .glo "are_names"]
def f_list1 : List He.Fa := [.glo "is_event", .glo "_law_row", .glo "_law_numbers", .glo "_law_log", .glo "_law_made", .glo "law", .glo "Log", .cls "Log", .mkr "Log", .keep "Log", .glo "Explanation", .cls "Explanation", .mkr "Explanation", .keep "Explanation", .noat "Log" "_items", .noat "Log" "_grades", .noat "Log" "_judges", .noat "Log" "_events", .noat "Explanation" "qualities", .noat "Explanation" "bars", .meth "Explanation" "__init__", .meth "Log" "__init__", .meth "Log" "drift_of", .meth "Log" "is_answer", .meth "Log" "answers", .meth "Log" "answers_of", .meth "Log" "answer_at", .meth "Log" "judge_at", .meth "Log" "item_at", .meth "Log" "grade_at"]
def f_list2 : List He.Fa := [.meth "Log" "span_at", .meth "Log" "stretch_at", .meth "Log" "stretch_of", .meth "Log" "stretches", .meth "Log" "with_events", .meth "Log" "check_event", .meth "Log" "with_event_at", .meth "Log" "only", .meth "Log" "with_judges", .meth "Log" "with_drift", .meth "Log" "backwards", .glo "Unexplained", .exc "Unexplained", .exm "Unexplained" "Unexplained" true, .free "len", .free "range", .free "max", .free "min", .free "sorted", .free "all", .free "any", .free "set", .free "list", .free "dict", .free "enumerate", .free "abs", .free "int", .str "LETTERS" "abcdefghijklmnopqrstuvwxyz0123456789", .str "RISES" "rises", .str "FALLS" "falls"]
def f_list3 : List He.Fa := [.str "STAYS" "stays", .str "ANSWER" "answer", .str "RESET" "reset", .int "MOST_ITEMS" 20, .int "MOST_JUDGES" 8, .int "MOST_EVENTS" 120, .int "MOST_GRADE" 9]
def f_list : List He.Fa := f_list0 ++ f_list1 ++ f_list2 ++ f_list3
def p_list : List (Str × Str) := [("Log", "item_names"), ("Log", "grades"), ("Log", "judges")]
end Hd
/-! THE HEAD: the kernel run of the top. -/
namespace Hd
open PySem PySem.Spec PyProof.Rows L2

abbrev R : PySem.W.OpenRow := PySem.W.OpenLaw.row PySem.Challenge.rw_risingbars_k73_whole_logs_that_say_the_s
abbrev hk : PySem.W.Hook := hook 5 f_list p_list d_list
def ob (s : PySem.W.SharedT) : Al := obsG 5 f_list p_list d_list (HandSHeadRun.getT s)
theorem ob_eq (s : PySem.W.SharedT) : ob s = hk.obs s.abs := obsG_eq (HandSHeadRun.getT_eq s)
theorem run (w : World) : HandSHeadRun.RunEq R (PySem.W.view R.prog [64]) hk ob 20000 loose w := by
  intro os
  kernel_rfl
end Hd
/-! OWN FRAMEWORK, part 4: promises, the program's own facts, logs in the heap. -/
namespace FW
open PySem PySem.Spec PyProof.Rows L2
/-- a promise: from inputs i told by args, a value of R with post -/
def mkSp {ι β : Type} (args : ι → Hp → List V → Prop) (R : Rp β) (post : ι → β → Prop) : Sp := fun vs H Q _ => ∃ (G : Hp) (i : ι), Ex G H ∧ args i G vs ∧ ∀ v G2 H2 x, Nxt G H G2 H2 → R.is G2 v x → post i x → Q v H2
theorem mkSp_use {ι β : Type} {args : ι → Hp → List V → Prop} {R : Rp β} {post : ι → β → Prop} {G : Hp} {vs : List V} (i : ι) (h : args i G vs) : SpP R (mkSp args R post) vs G (post i) := fun H e Q E q => ⟨G, i, e, h, q⟩
theorem SpP.imp {α : Type} {R : Rp α} {sp : Sp} {vs : List V} {G : Hp} {P P' : α → Prop} (h : SpP R sp vs G P) (k : ∀ x, P x → P' x) : SpP R sp vs G P' := fun H e Q E q => h H e Q E fun v G2 H2 x n r p => q v G2 H2 x n r (k x p)
section
variable (P : Program) (w : World) (K : PySem.W.Frag) (mg : Str → Option Value) (base : Heap)
/-- a def that may be called by its name -/
structure Cal (k : Nat) (x : Str) (sp : Sp) : Prop where
  ex : ∃ (f : Addr) (fd : FuncData) (ps : List Str), FnOk P w K mg base CX0 k f fd ps sp ∧ mg x = some (.ref f) ∧ PySem.W.keepIn K (.ref f) = true ∧ Binds K fd ps []
structure Met (k : Nat) (C : Addr) (m : Str) (sp : Sp) : Prop where
  ex : ∃ (f : Addr) (fd : FuncData) (ps : List Str), Cls K C ∧ Meth K C m f ∧ FnOk P w K mg base CX0 k f fd ps sp ∧ Binds K fd ps []
structure Prp (k : Nat) (C : Addr) (m : Str) (sp : Sp) : Prop where
  ex : ∃ (p f : Addr) (fd : FuncData) (ps : List Str), Cls K C ∧ PropOf K C m p f ∧ FnOk P w K mg base CX0 k f fd ps sp ∧ Binds K fd ps []
structure Mak (k : Nat) (x : Str) (C : Addr) (sp : Sp) : Prop where
  ex : ∃ (f : Addr) (fd : FuncData) (ps : List Str), Mk K C f ∧ FnOk P w K mg base CX0 k f fd ps sp ∧ mg x = some (.ref C) ∧ Binds K fd ps []
/-- what the top has written: the facts of the head -/
structure Tx : Prop where
  says : Hd.Says Hd.f_list Hd.p_list Hd.d_list K
  env : ∃ h : Heap, K.In h ∧ h.Ns mainGlobals mg
end
section
variable {P : Program} {w : World} {K : PySem.W.Frag} {mg : Str → Option Value} {base : Heap}
theorem Tx.fact (T : Tx K mg) (i : Nat) {f : He.Fa} (h : Hd.f_list[i]? = some f) : f.ok K = true := T.says.fact (List.mem_of_getElem? h)
theorem Tx.glo (T : Tx K mg) (i : Nat) {x : Str} (h : Hd.f_list[i]? = some (.glo x)) : mg x = some (.ref (He.ga K x)) := by
  obtain ⟨hp, X, G⟩ := T.env
  exact He.glo_ok X G (T.fact i h)
theorem Tx.free (T : Tx K mg) (i : Nat) {x : Str} (h : Hd.f_list[i]? = some (.free x)) : mg x = none := by
  obtain ⟨hp, X, G⟩ := T.env
  exact He.free_ok X G (T.fact i h)
theorem Tx.str (T : Tx K mg) (i : Nat) {x z : Str} (h : Hd.f_list[i]? = some (.str x z)) : ∃ t, mg x = some (.str z t) := by
  obtain ⟨hp, X, G⟩ := T.env
  exact He.str_ok X G (T.fact i h)
theorem Tx.int (T : Tx K mg) (i : Nat) {x : Str} {z : Int} (h : Hd.f_list[i]? = some (.int x z)) : ∃ t, mg x = some (.int z t) := by
  obtain ⟨hp, X, G⟩ := T.env
  exact He.int_ok X G (T.fact i h)
theorem Tx.cls (T : Tx K mg) (i : Nat) {x : Str} (h : Hd.f_list[i]? = some (.cls x)) : Cls K (He.ga K x) := He.cls_ok (T.fact i h)
theorem Tx.noat (T : Tx K mg) (i : Nat) {x f : Str} (h : Hd.f_list[i]? = some (.noat x f)) : NoAttr K (He.ga K x) f := He.noat_ok (T.fact i h)
theorem Tx.meth (T : Tx K mg) (i : Nat) {x m : Str} (h : Hd.f_list[i]? = some (.meth x m)) : Meth K (He.ga K x) m (He.ma K (He.ga K x) m) := He.meth_ok (T.fact i h)
theorem Tx.mkr (T : Tx K mg) (i : Nat) {x : Str} (h : Hd.f_list[i]? = some (.mkr x)) : Mk K (He.ga K x) (He.ma K (He.ga K x) "__init__") := He.mkr_ok (T.fact i h)
theorem Tx.prop (T : Tx K mg) (i : Nat) {c m : Str} (h : Hd.p_list[i]? = some (c, m)) : PropOf K (He.ga K c) m (He.ma K (He.ga K c) m) (Hd.pg c m K) := Hd.propB_ok (T.says.prop (List.mem_of_getElem? h))
theorem Tx.fn (T : Tx K mg) (i : Nat) {d : Hd.DA} (h : Hd.d_list[i]? = some d) : ∃ fd, Fun K d.name d.qual d.st (d.adr K) fd := T.says.def_ i h
/-- a def by its body -/
theorem fn_by {ι β : Type} {args : ι → Hp → List V → Prop} {R : Rp β} {post : ι → β → Prop} {x qual : Str} {st : Stmt} {f : Addr} {fd : FuncData} {N ps : List Str} {k : Nat} (F : Fun K x qual st f fd) (S : FnScope N ps (defScope st))
    (len : ∀ i G vs, args i G vs → vs.length = ps.length)
    (hb : ∀ (cdv : Value) (A : Around) (outer : List Env) (s : Shared) (H : Hp) (Q : VK) (E : XK), Room k (A.deeper (envOfC qual (defScope st) s.heap.objs.size f cdv)) → ∀ (i : ι) (G : Hp) (vs : List V), Ex G H → args i G vs →
      (∀ v G2 H2 x, Nxt G H G2 H2 → R.is G2 v x → post i x → Q v H2) → ∃ t, PSs (cxOf CX0 P w K mg base N qual (defScope st) f cdv A outer s H E).nox (defBody st) t ∧ t { nx := fun _ H' => Q .non H', rt := Q } (start N vs) H) :
    FnOk P w K mg base CX0 (k + 1) f fd ps (mkSp args R post) := by
  refine F.ok S (fun vs H Q E h => ?_) (fun cdv A outer s H vs Q E hr h => ?_)
  · obtain ⟨G, i, _, ha, _⟩ := h
    exact len i G vs ha
  · obtain ⟨G, i, e, ha, q⟩ := h
    exact hb cdv A outer s H Q E hr i G vs e ha q
end
section
variable {X : Cx} {k j : Nat} {C : Addr} {x m : Str} {sp : Sp} {p pos apos : Pos} {e o : Expr} {es : List Expr} {ta : TE} {t : TA}
theorem pe_c (c : Cal X.prog X.w X.K X.mg X.base k x sp) (hr : Room j X.A) (ha : PA X (e :: es) t) (hk : k ≤ j := by decide) (hg : Gl X x := by rfl)
    (hdb : (x == ("__debug__" : Str)) = false := by decide) (he : starEach (e :: es) X.env = (false, eval e X.env) :: starEach es X.env := by rfl) (hpl : (backTo pos (starEach es X.env)).any (·.1) = false := by rfl) :
    PE X (.Call (.Name x p) (e :: es) [] pos) (tCall sp [] E0 t) := by
  obtain ⟨f, fd, ps, F, hm, kp, b⟩ := c.ex
  exact pe_call F (hr.mono hk) hg hm kp b .nil pass0 ha hdb he hpl
theorem pe_mk (c : Mak X.prog X.w X.K X.mg X.base k x C sp) (hr : Room j X.A) (ha : PA X (e :: es) t) (hk : k + 1 ≤ j := by decide) (hg : Gl X x := by rfl)
    (hdb : (x == ("__debug__" : Str)) = false := by decide) (he : starEach (e :: es) X.env = (false, eval e X.env) :: starEach es X.env := by rfl) (hpl : (backTo pos (starEach es X.env)).any (·.1) = false := by rfl) :
    PE X (.Call (.Name x p) (e :: es) [] pos) (tMake C sp [] E0 t) := by
  obtain ⟨f, fd, ps, M, F, hm, b⟩ := c.ex
  exact pe_make M F (hr.mono hk) hg hm b .nil pass0 ha hdb he hpl
theorem pe_m {pl : Sem Bool} (c : Met X.prog X.w X.K X.mg X.base k C m sp) (hr : Room j X.A) (he : PE X o ta) (ha : PA X (e :: es) t) (hk : k ≤ j := by decide)
    (hst : starEach (e :: es) X.env = (false, eval e X.env) :: starEach es X.env := by rfl) (hpl : (backTo pos (starEach es X.env)).any (·.1) = false := by rfl)
    (ht : eval (.Call (.Attribute o m apos) (e :: es) [] pos) X.env = (do
      let ov ← eval o X.env
      standAt apos.atName
      let (f, first) ← holding [ov] (getMethod ov m pl)
      callWith pos f first (backTo pos (starEach (e :: es) X.env)) (backToKw pos (keywordEach [] X.env))) := by rfl) :
    PE X (.Call (.Attribute o m apos) (e :: es) [] pos) (tMeth C m sp [] E0 ta t) := by
  obtain ⟨f, fd, ps, hc, hm, F, b⟩ := c.ex
  exact pe_meth (pl := pl) he hc hm F (hr.mono hk) b .nil pass0 ha hst hpl ht
theorem pe_m00 {pl : Sem Bool} (c : Met X.prog X.w X.K X.mg X.base k C m sp) (hr : Room j X.A) (he : PE X o ta) (hk : k ≤ j := by decide)
    (ht : eval (.Call (.Attribute o m apos) [] [] pos) X.env = (do
      let ov ← eval o X.env
      standAt apos.atName
      let (f, first) ← holding [ov] (getMethod ov m pl)
      callWith pos f first (backTo pos (starEach [] X.env)) (backToKw pos (keywordEach [] X.env))) := by rfl) :
    PE X (.Call (.Attribute o m apos) [] [] pos) (tMeth C m sp [] E0 ta tNil) := by
  obtain ⟨f, fd, ps, hc, hm, F, b⟩ := c.ex
  exact pe_meth0 (pl := pl) he hc hm F (hr.mono hk) b .nil pass0 ht
theorem pe_p (c : Prp X.prog X.w X.K X.mg X.base k C m sp) (hr : Room j X.A) (he : PE X o ta) (hk : k + 1 ≤ j := by decide) (hab : attributeBase o m X.env (eval o X.env) = eval o X.env := by rfl) :
    PE X (.Attribute o m pos) (tProp C sp [] E0 ta) := by
  obtain ⟨p, f, fd, ps, hc, hp, F, b⟩ := c.ex
  exact pe_prop he hc hp F (hr.mono hk) b .nil pass0 hab
/-- a text of the module -/
theorem pe_gs {z : Str} (h : ∃ t, X.mg x = some (.str z t)) (hg : Gl X x := by rfl) (hd : (x == ("__debug__" : Str)) = false := by decide) : PE X (.Name x pos) (tC (.str z)) := by
  obtain ⟨t, h⟩ := h
  exact pe_glob (v := .str z) hg h ⟨t, rfl⟩ hd
theorem pe_gi {z : Int} (h : ∃ t, X.mg x = some (.int z t)) (hg : Gl X x := by rfl) (hd : (x == ("__debug__" : Str)) = false := by decide) : PE X (.Name x pos) (tC (.int z)) := by
  obtain ⟨t, h⟩ := h
  exact pe_glob (v := .int z) hg h ⟨t, rfl⟩ hd
end
/-! ### logs -/
open RB
abbrev Log := RB.LogD Str
def dStr : Drift → Str
  | .rises => "rises"
  | .falls => "falls"
  | .stays => "stays"
theorem dStr_inj : ∀ a b : Drift, dStr a = dStr b → a = b := by
  intro a b
  cases a <;> cases b <;> first | (intro _; rfl) | (intro h; exact absurd h (by decide))
def rDf : Rp Drift := ⟨fun _ v d => v = .str (dStr d), fun _ h => h⟩
def rJ : Rp (Str × Drift) := rT2 rS rDf
def evVs : RB.Ev Str → List V
  | .ans j i g => [.str "answer", .str j, .str i, .int g]
  | .res j => [.str "reset", .str j]
def rE : Rp (RB.Ev Str) := ⟨fun G v e => ∃ a, v = .ref a ∧ G a = some (.tup (evVs e)), fun e h => by
  obtain ⟨a, h1, h2⟩ := h
  exact ⟨a, h1, e _ _ h2⟩⟩
abbrev cLog (K : PySem.W.Frag) : Addr := He.ga K "Log"
abbrev logFs (v1 v2 v3 v4 : V) : List (Str × V) := [("_items", v1), ("_grades", v2), ("_judges", v3), ("_events", v4)]
def rLog (K : PySem.W.Frag) : Rp Log := ⟨fun G v L => ∃ a dx v1 v3 v4, v = .ref a ∧ G a = some (.ins (cLog K) dx (logFs v1 (.int L.grades) v3 v4)) ∧ (rL rS).is G v1 L.items ∧ (rL rJ).is G v3 L.judges ∧ (rL rE).is G v4 L.events, fun e h => by
  obtain ⟨a, dx, v1, v3, v4, h1, h2, h3, h4, h5⟩ := h
  exact ⟨a, dx, v1, v3, v4, h1, e _ _ h2, (rL rS).ex e h3, (rL rJ).ex e h4, (rL rE).ex e h5⟩⟩
theorem log_ins {K : PySem.W.Frag} {m : Str} (h : ∀ v1 v2 v3 v4 : V, (logFs v1 v2 v3 v4).lookup m = none := by intros; rfl) : InsOf (rLog K) (cLog K) m := fun G v L r => by
  obtain ⟨a, dx, v1, v3, v4, h1, h2, _⟩ := r
  exact ⟨a, dx, _, h1, h2, h _ _ _ _⟩
section
variable {K : PySem.W.Frag} {σ : L2.St} {G : Hp} {ta : TE} {L : Log}
theorem ev_items (c : Cls K (cLog K)) (n : NoAttr K (cLog K) "_items") (h : EvD (rLog K) ta σ G L) : EvD (rL rS) (tFld K ta "_items") σ G L.items := ev_fld h fun G2 v y e r p => by
  subst p
  obtain ⟨a, dx, v1, v3, v4, h1, h2, h3, h4, h5⟩ := r
  exact ⟨a, _, dx, _, v1, h1, h2, c, n, rfl, h3⟩
theorem ev_grades (c : Cls K (cLog K)) (n : NoAttr K (cLog K) "_grades") (h : EvD (rLog K) ta σ G L) : EvD FW.rI (tFld K ta "_grades") σ G L.grades := ev_fld h fun G2 v y e r p => by
  subst p
  obtain ⟨a, dx, v1, v3, v4, h1, h2, h3, h4, h5⟩ := r
  exact ⟨a, _, dx, _, _, h1, h2, c, n, rfl, rfl⟩
theorem ev_judges (c : Cls K (cLog K)) (n : NoAttr K (cLog K) "_judges") (h : EvD (rLog K) ta σ G L) : EvD (rL rJ) (tFld K ta "_judges") σ G L.judges := ev_fld h fun G2 v y e r p => by
  subst p
  obtain ⟨a, dx, v1, v3, v4, h1, h2, h3, h4, h5⟩ := r
  exact ⟨a, _, dx, _, _, h1, h2, c, n, rfl, h4⟩
theorem ev_events (c : Cls K (cLog K)) (n : NoAttr K (cLog K) "_events") (h : EvD (rLog K) ta σ G L) : EvD (rL rE) (tFld K ta "_events") σ G L.events := ev_fld h fun G2 v y e r p => by
  subst p
  obtain ⟨a, dx, v1, v3, v4, h1, h2, h3, h4, h5⟩ := r
  exact ⟨a, _, dx, _, _, h1, h2, c, n, rfl, h5⟩
end
end FW
/-! OWN RULES for what the hand layer has none: min | max with default=, setdefault with tuple keys, values() of a dict with tuple keys, walked and sorted, sorted of pairs with lists, len(set(texts)), xs += ys as an operator in place. -/
namespace FW
open PySem PySem.Spec PyProof.Rows L2
section
variable {X : Cx}
theorem hu65 {k : Nat} {A : Around} (r : Room k A) : A.units + 65 < cLine := by have := r.un; omega
theorem ip_ext : PIp X .Add rExt2 := iop_ext
theorem pe_m1g {o e : Expr} {m : Str} {apos cpos : Pos} (h1 : attributeBase o m X.env (eval o X.env) = eval o X.env := by rfl)
    (h2 : ((backTo cpos (starEach [e] X.env)).all (fun x => !x.1) && (backToKw cpos (keywordEach [] X.env)).all (fun x => x.1.isSome) && decide (([e] : List Expr).length + ([] : List Keyword).length + (if ([] : List Keyword).isEmpty then 0 else 1) < 30)) = true := by rfl)
    (h3 : (apos.endLine == cpos.line) = true := by rfl) (h4 : backTo cpos (starEach [e] X.env) = [(false, eval e X.env)] := by rfl) : M1 X o m apos e cpos := ⟨h1, h2, h3, h4⟩
theorem pe_m2g {o e f : Expr} {m : Str} {apos cpos : Pos} (h1 : attributeBase o m X.env (eval o X.env) = eval o X.env := by rfl)
    (h2 : ((backTo cpos (starEach [e, f] X.env)).all (fun x => !x.1) && (backToKw cpos (keywordEach [] X.env)).all (fun x => x.1.isSome) && decide (([e, f] : List Expr).length + ([] : List Keyword).length + (if ([] : List Keyword).isEmpty then 0 else 1) < 30)) = true := by rfl)
    (h3 : (apos.endLine == cpos.line) = true := by rfl) (h4 : backTo cpos (starEach [e, f] X.env) = [(false, eval e X.env), (false, eval f X.env)] := by rfl) : M2 X o m apos e f cpos := ⟨h1, h2, h3, h4⟩
/-! ### min, max with default= -/
theorem dp_ints {K : PySem.W.Frag} {H : Hp} : ∀ ns : List Int, DpAll K H (ns.map V.int) (ns.map PyData.int)
  | [] => .nil
  | n :: r => .cons (.int n) (dp_ints r)
theorem depth_ints : ∀ ns : List Int, PyData.depthAll (ns.map PyData.int) ≤ 1
  | [] => by decide
  | n :: r => by
    show max (PyData.depth (.int n)) (PyData.depthAll (r.map PyData.int)) ≤ 1
    exact Nat.max_le.mpr ⟨Nat.zero_le _, depth_ints r⟩
theorem alike_ints (ns : List Int) : PySem.W.AlikeAll (ns.map PyData.int) := by
  refine ⟨fun x hx y hy => ?_, fun x hx => ?_⟩
  · obtain ⟨a, _, rfl⟩ := List.mem_map.mp hx
    obtain ⟨b, _, rfl⟩ := List.mem_map.mp hy
    rfl
  · obtain ⟨a, _, rfl⟩ := List.mem_map.mp hx
    intro z; cases z
def rMinD (K : PySem.W.Frag) : List V → List V → Hp → VK → Prop := fun xs zs H Q => ∃ (a : Addr) (ns : List Int) (d : V), xs = [.ref a] ∧ zs = [d] ∧ SqL K H a (ns.map V.int) ∧ (ns = [] → Q d H) ∧ ∀ m, m ∈ ns → (∀ y, y ∈ ns → m ≤ y) → Q (.int m) H
def rMaxD (K : PySem.W.Frag) : List V → List V → Hp → VK → Prop := fun xs zs H Q => ∃ (a : Addr) (ns : List Int) (d : V), xs = [.ref a] ∧ zs = [d] ∧ SqL K H a (ns.map V.int) ∧ (ns = [] → Q d H) ∧ ∀ m, m ∈ ns → (∀ y, y ∈ ns → y ≤ m) → Q (.int m) H
theorem fold_min : ∀ (ns : List Int) (n : Int), ns.foldl min n ∈ n :: ns ∧ ∀ y, y ∈ n :: ns → ns.foldl min n ≤ y
  | [], n => ⟨List.mem_cons_self, fun y hy => by rw [List.mem_singleton] at hy; rw [hy]; exact Int.le_refl n⟩
  | a :: r, n => by
    obtain ⟨h1, h2⟩ := fold_min r (min n a)
    show r.foldl min (min n a) ∈ n :: a :: r ∧ ∀ y, y ∈ n :: a :: r → r.foldl min (min n a) ≤ y
    refine ⟨?_, fun y hy => ?_⟩
    · rcases List.mem_cons.mp h1 with e | e
      · rw [e]
        rcases Int.le_total n a with q | q
        · rw [Int.min_eq_left q]; exact List.mem_cons_self
        · rw [Int.min_eq_right q]; exact List.mem_cons_of_mem _ List.mem_cons_self
      · exact List.mem_cons_of_mem _ (List.mem_cons_of_mem _ e)
    · have h3 := h2 (min n a) List.mem_cons_self
      rcases List.mem_cons.mp hy with rfl | hy
      · exact Int.le_trans h3 (Int.min_le_left _ _)
      · rcases List.mem_cons.mp hy with rfl | hy
        · exact Int.le_trans h3 (Int.min_le_right _ _)
        · exact h2 y (List.mem_cons_of_mem _ hy)
theorem fold_max : ∀ (ns : List Int) (n : Int), ns.foldl max n ∈ n :: ns ∧ ∀ y, y ∈ n :: ns → y ≤ ns.foldl max n
  | [], n => ⟨List.mem_cons_self, fun y hy => by rw [List.mem_singleton] at hy; rw [hy]; exact Int.le_refl n⟩
  | a :: r, n => by
    obtain ⟨h1, h2⟩ := fold_max r (max n a)
    show r.foldl max (max n a) ∈ n :: a :: r ∧ ∀ y, y ∈ n :: a :: r → y ≤ r.foldl max (max n a)
    refine ⟨?_, fun y hy => ?_⟩
    · rcases List.mem_cons.mp h1 with e | e
      · rw [e]
        rcases Int.le_total n a with q | q
        · rw [Int.max_eq_right q]; exact List.mem_cons_of_mem _ List.mem_cons_self
        · rw [Int.max_eq_left q]; exact List.mem_cons_self
      · exact List.mem_cons_of_mem _ (List.mem_cons_of_mem _ e)
    · have h3 := h2 (max n a) List.mem_cons_self
      rcases List.mem_cons.mp hy with rfl | hy
      · exact Int.le_trans (Int.le_max_left _ _) h3
      · rcases List.mem_cons.mp hy with rfl | hy
        · exact Int.le_trans (Int.le_max_right _ _) h3
        · exact h2 y (List.mem_cons_of_mem _ hy)
theorem crk_min {k : Nat} (hr : Room k X.A) : CallRK X (.builtin "min") [Str.ofString "default"] (rMinD X.K) := by
  intro pins s σ H xs zs us ws Q I r rz h
  obtain ⟨a, ns, d, rfl, rfl, hs, h0, h1⟩ := h
  obtain ⟨its, rv, hl, hz⟩ := I.list hs
  obtain ⟨u, rfl, ru⟩ := vals1 r
  obtain ⟨dv, rfl, rd⟩ := vals1 rz
  obtain rfl : u = Value.ref a := ru
  obtain ⟨as, rd2⟩ := Dp.readsAll I (ns.map PyData.int) _ its (dp_ints ns) rv
  refine PySem.W.min_list_default (d := dv) (as := as) (xs := ns.map PyData.int) hr.hd hl.isList rd2 (alike_ints ns) (by have := depth_ints ns; have := hr.units; omega) (fun e h' tk hk => ?_) fun y ys i v h' tk bs e hi hv hk => ?_
  · have e2 : ns = [] := List.map_eq_nil_iff.mp e
    exact ⟨d, H, I.kept (t' := tk) hk, rd, h0 e2⟩
  · cases ns with
    | nil => cases e
    | cons n r =>
      rw [List.map_cons] at e
      injection e with e1 e2
      subst e1 e2
      rw [PySem.W.minD_ints] at hv
      cases hv
      obtain ⟨g1, g2⟩ := fold_min r n
      exact ⟨.int _, H, I.kept (t' := tk) hk, ⟨_, rfl⟩, h1 _ g1 g2⟩
theorem crk_max {k : Nat} (hr : Room k X.A) : CallRK X (.builtin "max") [Str.ofString "default"] (rMaxD X.K) := by
  intro pins s σ H xs zs us ws Q I r rz h
  obtain ⟨a, ns, d, rfl, rfl, hs, h0, h1⟩ := h
  obtain ⟨its, rv, hl, hz⟩ := I.list hs
  obtain ⟨u, rfl, ru⟩ := vals1 r
  obtain ⟨dv, rfl, rd⟩ := vals1 rz
  obtain rfl : u = Value.ref a := ru
  obtain ⟨as, rd2⟩ := Dp.readsAll I (ns.map PyData.int) _ its (dp_ints ns) rv
  refine PySem.W.max_list_default (d := dv) (as := as) (xs := ns.map PyData.int) hr.hd hl.isList rd2 (alike_ints ns) (by have := depth_ints ns; have := hr.units; omega) (fun e h' tk hk => ?_) fun y ys i v h' tk bs e hi hv hk => ?_
  · have e2 : ns = [] := List.map_eq_nil_iff.mp e
    exact ⟨d, H, I.kept (t' := tk) hk, rd, h0 e2⟩
  · cases ns with
    | nil => cases e
    | cons n r =>
      rw [List.map_cons] at e
      injection e with e1 e2
      subst e1 e2
      rw [PySem.W.maxD_ints] at hv
      cases hv
      obtain ⟨g1, g2⟩ := fold_max r n
      exact ⟨.int _, H, I.kept (t' := tk) hk, ⟨_, rfl⟩, h1 _ g1 g2⟩
end
end FW
/-! OWN RULES, part 2. -/
namespace FW
open PySem PySem.Spec PyProof.Rows L2
section
variable {X : Cx} {k : Nat} {e o f d0 : Expr} {td ty tx ta tb : TE} {p pos apos cpos kpos : Pos}
theorem pe_minD (hr : Room k X.A) (ha : PE X e ta) (hd : PE X d0 td) (hm : X.mg "min" = none) (hg : Gl X "min" := by rfl)
    (he : backTo pos (starEach [e] X.env) = (false, eval e X.env) :: backTo pos (starEach [] X.env) := by rfl) (hpl : (backTo pos (starEach [e] X.env)).any (·.1) = false := by rfl)
    (hall : (backToKw pos (keywordEach [⟨some "default", d0, kpos⟩] X.env)).all (·.1.isSome) = true := by rfl) (hnone : (backToKw pos (keywordEach [⟨some "default", d0, kpos⟩] X.env)).any (·.1.isNone) = false := by rfl)
    (hks : (backToKw pos (keywordEach [⟨some "default", d0, kpos⟩] X.env)).filterMap (·.1) = [Str.ofString "default"] := by rfl) (hs0 : starEach [e] X.env = (false, eval e X.env) :: starEach [] X.env := by rfl) :
    PE X (.Call (.Name "min" p) [e] [⟨some "default", d0, kpos⟩] pos) (tCKw (rMinD X.K) (tCons ta tNil) (tCons td tNil)) :=
  pe_callBK (crk_min hr) hg hm (by decide +kernel) (pa_cons ha pa_nil hs0) (pk_cons hd pk_nil) (by decide) (by decide) he hpl hall hnone hks
theorem pe_maxD (hr : Room k X.A) (ha : PE X e ta) (hd : PE X d0 td) (hm : X.mg "max" = none) (hg : Gl X "max" := by rfl)
    (he : backTo pos (starEach [e] X.env) = (false, eval e X.env) :: backTo pos (starEach [] X.env) := by rfl) (hpl : (backTo pos (starEach [e] X.env)).any (·.1) = false := by rfl)
    (hall : (backToKw pos (keywordEach [⟨some "default", d0, kpos⟩] X.env)).all (·.1.isSome) = true := by rfl) (hnone : (backToKw pos (keywordEach [⟨some "default", d0, kpos⟩] X.env)).any (·.1.isNone) = false := by rfl)
    (hks : (backToKw pos (keywordEach [⟨some "default", d0, kpos⟩] X.env)).filterMap (·.1) = [Str.ofString "default"] := by rfl) (hs0 : starEach [e] X.env = (false, eval e X.env) :: starEach [] X.env := by rfl) :
    PE X (.Call (.Name "max" p) [e] [⟨some "default", d0, kpos⟩] pos) (tCKw (rMaxD X.K) (tCons ta tNil) (tCons td tNil)) :=
  pe_callBK (crk_max hr) hg hm (by decide +kernel) (pa_cons ha pa_nil hs0) (pk_cons hd pk_nil) (by decide) (by decide) he hpl hall hnone hks
/-! ### setdefault with a tuple as key -/
def tDSetT (td ty tx : TE) : TE := fun σ H Q => td σ H fun x H1 => ∃ a, x = .ref a ∧ IsD H1 a ∧ ty σ H1 fun y H2 => tx σ H2 fun z H3 => ∃ (kvs : List (List Key × V)) (k : List Key) (b : Addr), H3 a = some (.dT kvs) ∧ y = .ref b ∧ H3 b = some (.tup (k.map kV)) ∧ kvs.length < sizeLine ∧
  (∀ v, valV kvs k = some v → Q v H3) ∧ (valV kvs k = none → Q z (upd H3 a (.dT (putK kvs k z))))
theorem pe_dsetdT (hu : X.A.units + 1 < cLine) (ho : PE X o td) (he : PE X e ty) (hf : PE X f tx) (m : M2 X o "setdefault" apos e f cpos) : PE X (.Call (.Attribute o "setdefault" apos) [e, f] [] cpos) (tDSetT td ty tx) := by
  refine ⟨fun pins s σ H Q I h => ?_⟩
  refine wpAny_Call_method m.base m.few m.line PySem.F.plainAttrs_dict PySem.F.slot_dict_setdefault PySem.F.type_dict_setdefault (thn (ho.run pins s σ H _ I h) fun u s1 ⟨x, H1, I1, rx, a, ex, d, q1⟩ => ?_)
  subst ex
  obtain rfl : u = Value.ref a := rx
  obtain ⟨t1, t2, _⟩ := isD_at I1 d
  refine ⟨t1, t2, ?_⟩
  rw [m.trees]
  refine Calls.callWith_builtin rfl (Calls.evalArgs_plain (Calls.spliced_cons (thn (he.run pins s1 σ H1 _ I1 q1) fun iv s2 ⟨y, H2, I2, ry, q2⟩ =>
    Calls.spliced_cons (thn (hf.run pins s2 σ H2 _ I2 q2) fun fv s3 ⟨z, H3, I3, rz, kvs, kk, b, ea, ey, eb, hl, q3, q4⟩ => Calls.spliced_nil ?_))))
  subst ey
  obtain rfl : iv = Value.ref b := ry
  obtain ⟨z0, hsys, xs, rel, dd⟩ := dt_of I3.hok ea
  have hz : xs.length ≤ sizeLine := by rw [← Paired.length rel]; exact z0
  have hv := rel.val kk
  refine call_setdefault_heap (hsz := hz) (tupleKind_room_in1 hu) (key_of I3.hok eb) hsys dd (fun p hp => ?_) fun hn h' dd' hs => ?_
  · rw [hp] at hv
    cases q0 : valV kvs kk with
    | none => rw [q0] at hv; exact (show False from hv).elim
    | some v0 =>
      rw [q0] at hv
      exact ⟨v0, H3, I3.tok _, hv, q3 v0 q0⟩
  · rw [hn] at hv
    cases q0 : valV kvs kk with
    | some v0 => rw [q0] at hv; exact (show False from hv).elim
    | none =>
      obtain ⟨ob, es, ep, g1, g2, g3, g4, _, g5⟩ := dd'
      have hlen : (putK kvs kk z).length ≤ sizeLine := by have := length_putK kvs kk z; omega
      have hne : ∀ c ys, H3 c = some (.tup ys) → c ≠ a := fun c ys ec => ne_of ec ea fun z => nomatch z
      refine ⟨z, upd H3 a (.dT (putK kvs kk z)), ?_, rz, q4 q0⟩
      refine d_write I3 (by rw [ea]; exact True.intro) hs ⟨ob, g1⟩ ⟨hlen, hsys, _, (rel.put kk eb rz).keeps fun c ys ec => ?_, ob, es, ep, g1, g2, g3, g4, g5⟩
      rw [upd_ne (hne c ys ec)]
      exact ec
/-! ### the values of a locked dict with tuples as keys -/
theorem frzV {pins : List (Addr × Obj)} {σ : L2.St} {H : Hp} {s : Shared} {d : Addr} {ob : Obj} {kvs : List (List Key × V)} (I : Inv X pins σ H s) (h : H d = some (.frz ob (.dT kvs))) :
    (d == sysModules) = false ∧ ∃ (es : Array DictEntry) (ep : Nat), s.heap.DictRaw d es ep ∧ ob.data = .dict es ep ∧ es.size = kvs.length ∧ ∀ (i : Nat) (kv : List Key × V), kvs[i]? = some kv → ∃ en, es[i]? = some en ∧ RelV kv.2 en.val := by
  obtain ⟨hd, z, hs, xs, pr, o', es, ep, ho, hx, hdt, he, _⟩ := I.hok d _ h
  rw [hd] at ho
  cases ho
  refine ⟨hs, es, ep, ⟨ob, hd, hx, hdt⟩, hdt, ?_, fun i kv e => ?_⟩
  · have l1 : es.size = xs.length := size_of_entries he
    have l2 : kvs.length = xs.length := Paired.length pr
    omega
  · obtain ⟨b, hb, _, _, e3⟩ := paired_get pr e
    have q := entry_at he i
    rw [hb] at q
    exact ⟨_, q, e3⟩
def ItT (d : Addr) (ob : Obj) (kvs : List (List Key × V)) : It :=
  ⟨fun i H => H d = some (.frz ob (.dT kvs)) ∧ i < kvs.length, fun i H x H' => H' = H ∧ ∃ kv, kvs[i]? = some kv ∧ x = kv.2, fun i H => H d = some (.frz ob (.dT kvs)) ∧ kvs.length ≤ i⟩
theorem turnT {P : Program} {w : World} {K : PySem.W.Frag} {tg : Expr} {d : Addr} {ob : Obj} {es : Array DictEntry} {ep : Nat} {kvs : List (List Key × V)} (it : Addr) (hod : ob.data = .dict es ep) : Turn P w K tg (ItT d ob kvs) [it] it (fun i h => h.IsValIter it d i kvs.length ep) where
  mem := by simp
  obj := fun i h st b hb => by
    rw [List.mem_singleton] at hb
    subst hb
    obtain ⟨oi, e, _, dd⟩ := st
    exact ⟨oi, e, fun v z => by rw [dd] at z; cases z⟩
  keep := fun i h h' st kk => by
    obtain ⟨oi, e, c, dd⟩ := st
    exact ⟨oi, kk it (by simp) oi e, c, dd⟩
  item := by
    intro X hP hw hK hc i pins s σ H E I hf st hg
    subst hP hw hK
    obtain ⟨hd, hi⟩ := hg
    obtain ⟨f0, f1, f2, f3, f4, f5⟩ := hf it (by simp)
    obtain ⟨hs, es', ep', raw, hdt, hsz, ent⟩ := frzV I hd
    obtain ⟨rfl, rfl⟩ := dict_ep hod hdt
    have hi2 : i < es'.size := by rw [hsz]; exact hi
    obtain ⟨en, hen, rv⟩ := ent i _ (List.getElem?_eq_getElem hi)
    have hen2 : es'[i] = en := by rw [Array.getElem?_eq_getElem hi2] at hen; exact Option.some.inj hen
    have st0 : s.heap.IsValIter it d i es'.size ep' := by rw [hsz]; exact st
    refine wpAny_pyNext_values_item_raw st0 raw hi2 fun h' st' sb => ?_
    have I1 : Inv X pins σ H { s with heap := h' } := I.turned (t' := s.toks) (fun b ob hb e => (sb.2 b hb).trans e) f0 f1 f3 f4 f5
    have st1 : h'.IsValIter it d (i + 1) kvs.length ep' := by rw [← hsz]; exact st'
    obtain ⟨oi, e, c, dd⟩ := id st'
    refine ⟨es'[i].val, rfl, go_of (s := { s with heap := h' }) e c dd (by decide) ⟨_, H, I1, ?_, ⟨rfl, _, List.getElem?_eq_getElem hi, rfl⟩, st1, fun b hb => (hf b hb).1⟩⟩
    rw [hen2]; exact rv
  done := by
    intro X hP hw hK hc i pins s σ H E I hf st hg
    subst hP hw hK
    obtain ⟨hd, hi⟩ := hg
    obtain ⟨f0, f1, f2, f3, f4, f5⟩ := hf it (by simp)
    obtain ⟨hs, es', ep', raw, hdt, hsz, ent⟩ := frzV I hd
    obtain ⟨rfl, rfl⟩ := dict_ep hod hdt
    have st0 : s.heap.IsValIter it d i es'.size ep' := by rw [hsz]; exact st
    exact wpAny_pyNext_values_end_raw (I.ok.hd hc) st0 raw (by rw [hsz]; exact hi) fun h' eb => ⟨rfl, I.turned (t' := s.toks) (fun b ob hb e => eb b ob hb e) f0 f1 f3 f4 f5⟩
  self := fun A i s Q E st h => wpAny_pyIter_valiter st h
def iValsT (td : TE) : TI := fun σ H R => td σ H fun x H1 => ∃ d ob kvs, x = .ref d ∧ H1 d = some (.frz ob (.dT kvs)) ∧ R (ItT d ob kvs) H1
theorem pi_valuesT {tg : Expr} (he : PE X e td) (hbase : attributeBase e "values" X.env (eval e X.env) = eval e X.env := by rfl) (hline : (apos.endLine == cpos.line) = true := by rfl) : PI X tg (.Call (.Attribute e "values" apos) [] [] cpos) (iValsT td) := by
  refine ⟨fun pins s σ H R I h => ?_⟩
  refine wpAny_Call_method (T := "dict") (id := "dict.values") hbase rfl hline PySem.F.plainAttrs_dict PySem.F.slot_dict_values PySem.F.type_dict_values (thn (he.run pins s σ H _ I h) fun u s1 ⟨x, H1, I1, rx, d, ob, kvs, ex, hd, q⟩ => ?_)
  subst ex
  obtain rfl : u = Value.ref d := rx
  obtain ⟨hs, es, ep, raw, hdt, hsz, ent⟩ := frzV I1 hd
  refine ⟨raw.typeIs, ?_, ?_⟩
  · intro b eb
    cases eb
    obtain ⟨oo, g1, g2, g3⟩ := raw
    exact ⟨oo, g1, g2.2.1⟩
  · have I2 : Inv X pins σ H1 { s1 with heap := s1.heap.push { cls := .type "dict_values", data := .fields #[.ref d] } } := I1.kept (t' := s1.toks) fun b ob q => Heap.get?_push_of_some _ q
    have fin : wpAny (model X.prog X.w) X.A (pyIter (.ref s1.heap.objs.size)) (PIE X pins σ tg R) X.xe { s1 with heap := s1.heap.push { cls := .type "dict_values", data := .fields #[.ref d] } } := by
      refine wpAny_pyIter_values_raw (d := d) (es := es) (ep := ep) ⟨_, Heap.get?_push_size _ rfl, rfl, rfl⟩ (raw.at fun oo go => Heap.get?_push_of_some _ go) (pi_one (tk := s1.toks) I2 _ (turnT _ hdt) ⟨_, Heap.get?_push_size _ rfl, rfl, ?_⟩ q)
      rw [hsz] <;> rfl
    exact method_meetsIn PySem.F.slot_dict_values PySem.F.entry_dict_values rfl (PySem.evalArgs_none ⟨rfl, raw.typeIs, PySem.F.args_dict_values_1 _, _, meets_dict_values_raw d hs, ⟨es, ep, raw⟩, fin⟩)
end
end FW
/-! OWN RULES, part 3: sorted(d.values()), sorted of pairs with lists in them, len(set(texts)). -/
namespace FW
open PySem PySem.Spec PyProof.Rows L2
/-- what is tracked is there -/
theorem objOk_there {P : Program} {w : World} {H : Hp} {h : Heap} {a : Addr} {o : HO} (x : ObjOk P w H h a o) : ∃ u, h.get? a = some u := by
  cases o with
  | lst xs => obtain ⟨_, _, _, _, e⟩ := x; exact ⟨_, e⟩
  | tup xs => obtain ⟨_, _, _, ob, e, _⟩ := x; exact ⟨_, e⟩
  | dK kvs => obtain ⟨_, _, _, _, ob, _, _, e, _⟩ := x; exact ⟨_, e⟩
  | dT kvs => obtain ⟨_, _, _, _, ob, _, _, e, _⟩ := x; exact ⟨_, e⟩
  | set S n => obtain ⟨ob, _, _, _, e, _⟩ := x; exact ⟨_, e⟩
  | ins C dx fs => obtain ⟨_, _, _, e, _⟩ := x; exact ⟨_, e⟩
  | own y => obtain ⟨_, e⟩ := x; exact ⟨_, e⟩
  | xd fs => obtain ⟨_, ⟨_, _, _, e, _⟩, _⟩ := x; exact ⟨_, e⟩
  | rng lo hi => obtain ⟨_, _, _, e⟩ := x; exact ⟨_, e⟩
  | frz ob u => obtain ⟨e, _⟩ := x; exact ⟨_, e⟩
  | tbl ps => exact ⟨_, (show h.get? a = some _ from x)⟩
  | met f y => exact ⟨_, (show h.get? a = some _ from x)⟩
  | ext φ => obtain ⟨_, e, _⟩ := x; exact e
section
variable {X : Cx} {pins : List (Addr × Obj)} {σ : L2.St} {H : Hp} {s : Shared}
/-- a new object at a place where nothing lives -/
theorem laid_free {a : Addr} {o : HO} {h' : Heap} {tk : Nat} (I : Inv X pins σ H s) (k : ∀ b u, s.heap.get? b = some u → h'.get? b = some u) (hf : ∀ u, s.heap.get? a ≠ some u) (new : ObjOk X.prog X.w (upd H a o) h' a o) :
    Inv X pins σ (upd H a o) { s with heap := h', toks := tk } := by
  have hn : H a = none := by
    cases q : H a with
    | none => rfl
    | some u =>
      obtain ⟨ob, e⟩ := objOk_there (I.hok a u q)
      exact absurd e (hf ob)
  have ne : ∀ b u, s.heap.get? b = some u → b ≠ a := fun b u e z => hf u (by rw [← z]; exact e)
  refine I.un ⟨fun b u q _ _ _ => k b u q, fun b u q _ _ _ => ⟨u.slots, k b u q⟩, fun b u q n _ => by rw [upd_ne (ne b u q)]; exact n, fun b u q _ => ⟨u, k b u q⟩,
    fun b xs q => by rw [upd_ne (ne_of_none q hn)]; exact q, fun b u xs q => by rw [upd_ne (ne_of_none q hn)]; exact q, fun b ps q => ⟨#[], by rw [upd_ne (ne_of_none q hn), q]; simp⟩⟩ fun b u e => ?_
  by_cases hb : b = a
  · subst hb
    rw [upd_same] at e; cases e
    exact new
  · rw [upd_ne hb] at e
    exact (I.hok b u e).stay (fun c v _ q => k c v q) (fun c q => by rw [upd_ne (ne_of_none q hn)]; exact q) fun c xs q => by rw [upd_ne (ne_of_none q hn)]; exact q
end
section
variable {prog : Program} {w : World} {A : Around} {E : Value → Shared → Prop} {s : Shared}
/-- sorted(r), r anything whose values come one by one, tuples of two ints all -/
theorem sorted_src {T : String} {r d : Addr} {n : Nat} {P : Nat → Value → Prop} {OK : Heap → Prop} {Q : Value → Shared → Prop} (Kd : PySem.W.KdlSrc prog w T r d n P OK) (hh : A.handled = none) (hok : OK s.heap) (hn : n ≤ sizeLine)
    (hp : ∀ i v, P i v → ∃ x y, Srt.IsPair s.heap v x y)
    (h : ∀ (h' : Heap) (tk : Nat) (a : Addr) (vs out : List Value), vs.length = n → (∀ (j : Nat) (v : Value), vs[j]? = some v → P j v) → out.Perm vs → (∀ b o, s.heap.get? b = some o → h'.get? b = some o) → (∀ u, s.heap.get? a ≠ some u) → (∃ c, h'.get? a = some (seqObj "list" out.toArray c)) → Q (.ref a) { s with heap := h', toks := tk }) :
    wpAny (model prog w) A (call (.builtin "sorted") [.ref r]) Q E s := by
  refine Calls.call_function_entry kind_sorted plain_sorted entry_sorted (args_sorted1 _) ?_
  unfold Builtin.«sorted»
  refine wpAny_bind (m := checkCount "sorted" 1 1 _) (wpAny_pure ?_)
  refine wpAny_bind (PySem.W.kdu_collect (A := A.in1) Kd hh hok hn fun h1 tk acc hk hacc => ?_)
  have hlen : acc.toList.length = n := by rw [Array.length_toList]; exact hacc.1
  have hP : ∀ (j : Nat) (v : Value), acc.toList[j]? = some v → P j v := fun j v e => hacc.2 j v (by rw [← Array.getElem?_toList]; exact e)
  refine wpAny_bind (wpAny_newList ?_ (by rw [hlen]; exact hn))
  have hoL : (h1.push (seqObj "list" acc.toList.toArray 0)).get? h1.objs.size = some (seqObj "list" acc.toList.toArray 0) := Heap.get?_push_size _ rfl
  have hnew : ∀ b o, s.heap.get? b = some o → b ≠ h1.objs.size := fun b o e => Nat.ne_of_lt (Heap.lt_size (hk b o e))
  have keep2 : ∀ b o, s.heap.get? b = some o → (h1.push (seqObj "list" acc.toList.toArray 0)).get? b = some o := fun b o e => Heap.get?_push_of_some _ (hk b o e)
  show wpAny _ _ _ _ _ { s with heap := h1.push (seqObj "list" acc.toList.toArray 0), toks := tk }
  refine wpAny_bind (wpAny_holding (wpAny_call_entry slot_list_sort ⟨_, hoL, rfl⟩ entry_list_sort (Srt.list_sort_any hoL (by rw [hlen]; exact hn) (fun h2 => ?_) fun out hout => ⟨_, rfl, ?_⟩) (args_list_sort _)))
  · refine Srt.pairs_sortable (by omega) (fun v hv => ?_) fun o e => ?_
    · obtain ⟨j, hj⟩ := List.mem_iff_getElem?.mp hv
      obtain ⟨x, y, g⟩ := hp j v (hP j v hj)
      exact ⟨x, y, g.keeps fun b o e _ => keep2 b o e⟩
    · have e' : some o = some (seqObj "list" acc.toList.toArray 0) := e.symm.trans hoL
      cases e'
      intro c
      exact absurd (Value.type.inj c) (by decide)
  · refine wpAny_pure ⟨_, rfl, h _ tk h1.objs.size acc.toList out hlen hP hout (fun b o e => ?_) (fun u e => hnew _ _ e rfl) (sortedHeap_at hoL)⟩
    rw [sortedHeap_old (hnew b o e) (Heap.lt_size (keep2 b o e))]
    exact keep2 b o e
end
section
variable {X : Cx} {k : Nat} {o e : Expr} {td ta : TE} {p pos apos mpos : Pos}
/-- sorted(d.values()), a dict with tuples as keys whose values are tuples of two ints -/
def tSortedVals (td : TE) : TE := fun σ H Q => td σ H fun x H1 => ∃ d kvs, x = .ref d ∧ H1 d = some (.dT kvs) ∧ (∀ kv ∈ kvs, ∃ t i j, kv.2 = V.ref t ∧ H1 t = some (.tup [.int i, .int j])) ∧ ∀ ys q, ys.Perm (kvs.map (·.2)) → H1 q = none → Q (.ref q) (upd H1 q (.lst ys))
theorem pe_sortedVals (hr : Room k X.A) (hd : PE X o td) (hm : X.mg "sorted" = none) (hg : Gl X "sorted" := by rfl) (hbase : attributeBase o "values" X.env (eval o X.env) = eval o X.env := by rfl) (hline : (apos.endLine == mpos.line) = true := by rfl)
    (hse : starEach [Expr.Call (.Attribute o "values" apos) [] [] mpos] X.env = [(false, eval (Expr.Call (.Attribute o "values" apos) [] [] mpos) X.env)] := by rfl) :
    PE X (.Call (.Name "sorted" p) [.Call (.Attribute o "values" apos) [] [] mpos] [] pos) (tSortedVals td) := by
  refine ⟨fun pins s σ H Q I h => ?_⟩
  refine wpAny_Call_Name_kw (ld_blt I hg hm (u := .builtin "sorted") (by first | rfl | decide +kernel) ?_ (by first | decide +kernel | decide) (by first | decide +kernel | decide))
  rw [hse]
  refine PySem.callWith_builtin1 (wpAny_Call_method0_late hbase hline (thn (hd.run pins s σ H _ I h) fun v s1 ⟨x, H1, I1, r1, d, kvs, ex, ha, hp, q⟩ => ?_))
  subst ex
  obtain rfl : v = Value.ref d := r1
  obtain ⟨hz, hsys, xs, rel, ob, es, ep, ho, hx, hdt, hes, hnd⟩ := I1.hok d _ ha
  refine ⟨"dict", "dict.values", PySem.F.plainAttrs_dict, PySem.F.slot_dict_values, PySem.F.type_dict_values, ⟨ob, ho, hx.1⟩, fun b eb => ?_, Calls.callWith_builtin rfl (PySem.evalArgs_none ?_)⟩
  · cases eb
    exact ⟨ob, ho, hx.2.1⟩
  have raw : s1.heap.DictRaw d es ep := ⟨ob, ho, hx, hdt⟩
  refine call_meetsIn PySem.F.slot_dict_values ⟨ob, ho, hx.1⟩ PySem.F.entry_dict_values (PySem.F.args_dict_values_1 _) (meets_dict_values_raw d hsys) ⟨⟨es, ep, raw⟩, ?_⟩
  have k1 : ∀ b u, s1.heap.get? b = some u → (s1.heap.push { cls := .type "dict_values", data := .fields #[.ref d] }).get? b = some u := fun b u e => Heap.get?_push_of_some _ e
  have lx : kvs.length = xs.length := Paired.length rel
  have le : es.size = xs.length := size_of_entries hes
  have val : ∀ i (hi : i < es.size), ∃ kv, kvs[i]? = some kv ∧ RelV kv.2 es[i].val := fun i hi => by
    have hi2 : i < kvs.length := by omega
    obtain ⟨b, hb, _, _, e3⟩ := paired_get rel (List.getElem?_eq_getElem hi2)
    have qq := entry_at hes i
    rw [hb, Array.getElem?_eq_getElem hi] at qq
    have q2 := Option.some.inj qq
    exact ⟨_, List.getElem?_eq_getElem hi2, by rw [q2]; exact e3⟩
  refine sorted_src (KdlSrc.rawValues (r := s1.heap.objs.size) (d := d) (es := es) (ep := ep)) hr.hd ⟨⟨_, Heap.get?_push_size _ rfl, rfl, rfl⟩, raw.at fun oo go => k1 _ _ go⟩ (by omega) (fun i v ⟨hi, ev⟩ => ?_) fun h' tk a vs out hvl hvs hout hk hfree hat => ?_
  · obtain ⟨kv, hkv, rv⟩ := val i hi
    obtain ⟨t, x, y, e1, e2⟩ := hp kv (List.mem_of_getElem? hkv)
    rw [e1] at rv
    obtain ⟨_, its2, r2, oo, go, hc, n, hd2⟩ := I1.hok _ _ e2
    obtain ⟨u1, u2, rfl, ri, rj⟩ := vals2 r2
    obtain ⟨t1, rfl⟩ := ri
    obtain ⟨t2, rfl⟩ := rj
    exact ⟨x, y, t, oo, t1, t2, n, ev.trans rv, k1 _ _ go, hc, hd2⟩
  · have hvs2 : Vals (kvs.map (·.2)) vs := by
      have key : ∀ (l : List (List Key × V)) (us : List Value), l.length = us.length → (∀ (j : Nat) (v : Value), us[j]? = some v → ∃ kv : List Key × V, l[j]? = some kv ∧ RelV kv.2 v) → Vals (l.map (·.2)) us := by
        intro l
        induction l with
        | nil => intro us hl _; cases us with
          | nil => exact .nil
          | cons _ _ => cases hl
        | cons kv l ih =>
          intro us hl hj
          cases us with
          | nil => cases hl
          | cons u us =>
            obtain ⟨kv', e1, e2⟩ := hj 0 u rfl
            cases e1
            exact .cons e2 (ih us (by simpa using hl) fun j v e => by
              obtain ⟨kv2, e3, e4⟩ := hj (j + 1) v (by simpa using e)
              exact ⟨kv2, by simpa using e3, e4⟩)
      refine key kvs vs (by omega) fun j v e => ?_
      obtain ⟨hi, ev⟩ := hvs j v e
      obtain ⟨kv, e1, e2⟩ := val j hi
      exact ⟨kv, e1, by rw [ev]; exact e2⟩
    obtain ⟨e1, e2⟩ := refs_back hvs2 fun x hx => by
      obtain ⟨kv, hkv, rfl⟩ := List.mem_map.mp hx
      obtain ⟨t, _, _, e, _⟩ := hp kv hkv
      exact ⟨t, e⟩
    have h3 : ∀ u ∈ out, ∃ a, u = Value.ref a := fun u hu => e2 u (hout.mem_iff.mp hu)
    obtain ⟨c, hc⟩ := hat
    have hnone : H1 a = none := by
      cases q0 : H1 a with
      | none => rfl
      | some u =>
        obtain ⟨oo, go⟩ := objOk_there (I1.hok a u q0)
        exact absurd (k1 _ _ go) (hfree oo)
    have I2 : Inv X pins σ H1 { s1 with heap := s1.heap.push { cls := .type "dict_values", data := .fields #[.ref d] } } := I1.kept (t' := s1.toks) k1
    refine ⟨.ref a, upd H1 a (.lst (out.map backV)), laid_free (tk := tk) I2 hk hfree ⟨?_, out, c, vals_back h3, hc⟩, rfl, q _ a ?_ hnone⟩
    · rw [List.length_map, hout.length_eq, hvl]; omega
    · rw [e1]; exact hout.map backV
end
end FW
/-! OWN RULES, part 4: sorted of alike data; len(set(texts)), texts that differ. -/
namespace FW
theorem hu_of {k : Nat} {A : PySem.Around} (r : L2.Room k A) : A.units + 1 < PySem.cLine := by have := r.un; omega
open PySem PySem.Spec PyProof.Rows L2
section
variable {X : Cx} {k : Nat} {o e a : Expr} {td ta : TE} {p p2 q pos : Pos}
/-! ### sorted of alike data -/
def rSortedA (K : PySem.W.Frag) : List V → Hp → VK → Prop := fun vs H Q => ∃ (a : Addr) (xs : List V) (ds : List PyData), vs = [V.ref a] ∧ SqL K H a xs ∧ DpAll K H xs ds ∧ (∀ d ∈ ds, ∃ y r, d = .tuple (y :: r)) ∧ (∀ d ∈ ds, ∀ d' ∈ ds, PySem.W.alike d d' = true) ∧ (∀ d ∈ ds, d.depth ≤ 20) ∧ (∀ x ∈ xs, ∃ t, x = V.ref t) ∧
  ∀ ys q, ys.Perm xs → H q = none → Q (.ref q) (upd H q (.lst ys))
theorem each_zip {h : Heap} : ∀ {vs : List Value} {ds : List PyData} {as : List Addr}, ReadsAll h vs ds as → PySem.W.EachIs (fun v (b : Value × PyData) => v = b.1) vs (vs.zip ds) ∧ PySem.W.EachIs (fun v (b : Value × PyData) => ∃ as, Reads h v b.2 as) vs (vs.zip ds) ∧ (vs.zip ds).map (·.2) = ds ∧ (vs.zip ds).map (·.1) = vs
  | _, _, _, .nil => ⟨.nil, .nil, rfl, rfl⟩
  | _, _, _, .cons h1 h2 => by
    obtain ⟨a, b, c, d⟩ := each_zip h2
    exact ⟨.cons rfl a, .cons ⟨_, h1⟩ b, congrArg _ c, congrArg _ d⟩
theorem each_fst : ∀ {vs : List Value} {bs : List (Value × PyData)}, PySem.W.EachIs (fun v (b : Value × PyData) => v = b.1) vs bs → vs = bs.map (·.1)
  | _, _, .nil => rfl
  | _, _, .cons h t => by rw [List.map_cons, h, each_fst t]
theorem cr_sortedA (hr : Room k X.A) : CallR X (.builtin "sorted") (rSortedA X.K) := by
  intro pins s σ H vs us Q I r h
  obtain ⟨a, xs, ds, rfl, hs, hd, htup, hal, hdep, href, q⟩ := h
  obtain ⟨its, rv, hl, hz⟩ := I.list hs
  obtain ⟨u, rfl, ru⟩ := vals1 r
  obtain rfl : u = Value.ref a := ru
  obtain ⟨as, rd⟩ := Dp.readsAll I ds xs its hd rv
  obtain ⟨z1, z2, z3, z4⟩ := each_zip rd
  obtain ⟨e1, e2⟩ := refs_back rv href
  have hlen : (its.zip ds).length = its.length := by rw [← z1.length]
  have hun := hr.un
  refine PySem.W.sorted_data (enc := fun b : Value × PyData => b.2) (R := fun v b => v = b.1) (bs := its.zip ds) hl.isList z1 z2 (fun d h1 d' h2 => ?_) (.inl fun d h1 => ?_) (by rw [hlen, ← rv.length]; exact hz) (fun b hb => ?_) fun out ho he => ?_
  · rw [z3] at h1 h2; exact hal d h1 d' h2
  · rw [z3] at h1; exact htup d h1
  · have : b.2 ∈ ds := by rw [← z3]; exact List.mem_map.mpr ⟨b, hb, rfl⟩
    have := hdep _ this
    omega
  · have hp : out.Perm its := by
      rw [each_fst he]
      have := (List.mergeSort_perm (its.zip ds) (PySem.W.dataLe false fun b : Value × PyData => b.2)).map (·.1)
      rwa [z4] at this
    have h3 : ∀ u ∈ out, ∃ a, u = Value.ref a := fun u hu => e2 u (hp.mem_iff.mp hu)
    obtain ⟨ep, he'⟩ := PyProof.Rows.sortedAll_at s.heap its out.toArray
    refine ⟨.ref _, upd H (s.heap.objs.size + 1) (.lst (out.map backV)), I.laid (t' := s.toks) (fun _ _ => PyProof.Rows.sortedAll_old) (Nat.le_succ _) ⟨?_, out, ep, vals_back h3, ?_⟩, rfl, q _ _ ?_ (I.hok.fresh (Nat.le_succ _))⟩
    · rw [List.length_map, hp.length_eq, ← rv.length]; exact hz
    · exact he'
    · rw [e1]; exact hp.map backV
theorem pe_sortedRings (hr : Room k X.A) (ha : PE X e ta) (hm : X.mg "sorted" = none) (hg : Gl X "sorted" := by rfl)
    (hst : starEach (e :: []) X.env = (false, eval e X.env) :: starEach [] X.env := by rfl) (hpl : (backTo pos (starEach [] X.env)).any (·.1) = false := by rfl) : PE X (.Call (.Name "sorted" p) [e] [] pos) (tCB (rSortedA X.K) (tCons ta tNil)) :=
  pe_callB (cr_sortedA hr) hg hm (by decide +kernel) (pa_cons ha pa_nil hst) (by decide) (by decide) hst hpl
end
/-! ### set(texts) -/
section
variable {prog : Program} {w : World} {A : Around} {E : Value → Shared → Prop} {s : Shared}
theorem set_texts_loop {R : Result → Shared → Prop} {I : Addr} {fp wr : List Addr} {G : Array GenState → Array GenState → Prop} {n : Nat} {P : Nat → Value → Prop} {St : Nat → Shared → Prop} (W : WalksS prog w A.in1 I fp wr G n P St) (S : Addr) (hSf : S ∉ fp)
    (xs : List Str) (hn : n = xs.length) (nd : xs.Nodup) (hb : xs.length + 1 < scanBound) (hval : ∀ i v, P i v → ∃ z t, xs[i]? = some z ∧ v = .str z t) :
    ∀ (k i : Nat) (s : Shared), n - i = k → i ≤ n → St i s → s.heap.SetOf (PySem.strKind prog w) S (fun k' => decide (k' ∈ xs.take i)) i →
      (∀ s', Moved (S :: wr) G s s' → s'.heap.SetOf (PySem.strKind prog w) S (fun k' => decide (k' ∈ xs)) n → R (.ok (.ret .none)) s') →
      codeAny (model prog w) A (.builtin "set.update.loop" ⟨[.ref S, .ref I], []⟩) R s := by
  have hSw : S ∉ wr := fun h => hSf (W.sub _ h)
  have hsub : ∀ b ∈ wr, b ∈ S :: wr := fun b hb => List.mem_cons_of_mem _ hb
  have moved : ∀ {S' : Str → Bool} {m : Nat} {s s' : Shared}, Moved wr G s s' → s.heap.SetOf (PySem.strKind prog w) S S' m → s'.heap.SetOf (PySem.strKind prog w) S S' m := fun hm hS => by
    obtain ⟨o, es, ep, t, ho, rest⟩ := hS
    exact ⟨o, es, ep, t, hm.heap S o hSw ho, rest⟩
  intro k
  induction k with
  | zero =>
    intro i s hk hi hst hS hR
    obtain rfl : i = n := by omega
    refine codeAny_builtin PyProof.Rows.F.entry_set_update_loop ?_
    rw [Around.under_plainId PyProof.Rows.F.plain_set_update_loop _]
    show wpAny _ A.in1 (pyNext (.ref I) >>= _) _ _ s
    refine wpAny_bind (W.done s _ _ hst fun s' hm => ?_)
    show wpAny _ A.in1 (ret Value.none) _ _ s'
    rw [List.take_of_length_le (Nat.le_of_eq hn.symm)] at hS
    exact wpAny_pure (hR s' (hm.mono hsub) (moved hm hS))
  | succ k ih =>
    intro i s hk hi hst hS hR
    have hlt : i < n := by omega
    refine codeAny_builtin PyProof.Rows.F.entry_set_update_loop ?_
    rw [Around.under_plainId PyProof.Rows.F.plain_set_update_loop _]
    show wpAny _ A.in1 (pyNext (.ref I) >>= _) _ _ s
    refine wpAny_bind (W.item i s _ _ hlt hst fun v s' hP hst' hm => ?_)
    obtain ⟨z, t, hz, rfl⟩ := hval i v hP
    have hS' := moved hm hS
    show wpAny _ A.in1 (holding [Value.str z t] (setAdd S (.str z t)) >>= _) _ _ s'
    refine wpAny_bind (wpAny_holding ?_)
    unfold setAdd
    refine wpAny_holding ?_
    refine wpAny_bind ((PySem.strKind prog w).pyHash (k := z) (strKind_is _ _ _ _) ?_)
    refine wpAny_setAddHashed_of (knd := PySem.strKind prog w) (s := { s' with toks := s'.toks + 1 }) (strKind_is _ _ _ _) rfl hS' (by omega) fun h' hsb hS2 => ?_
    have hnew : z ∉ xs.take i := fun hm => by
      obtain ⟨j, hj⟩ := List.mem_iff_getElem?.mp hm
      rw [List.getElem?_take] at hj
      by_cases hji : j < i
      · rw [if_pos hji] at hj
        have := (List.getElem?_inj (by omega) nd).mp (hj.trans hz.symm)
        omega
      · rw [if_neg hji] at hj; cases hj
    have hSi : h'.SetOf (PySem.strKind prog w) S (fun k' => decide (k' ∈ xs.take (i + 1))) (i + 1) := by
      refine PyProof.Rows.SetOf_congr hS2 (fun k' => ?_) (by rw [if_neg (by rw [decide_eq_true_eq]; exact hnew)])
      rw [List.take_add_one, hz]
      show (decide (k' ∈ xs.take i) || decide (k' = z)) = decide (k' ∈ xs.take i ++ [z])
      rw [← Bool.decide_or]
      exact decide_eq_decide.mpr (by rw [List.mem_append, List.mem_singleton])
    refine wpAny_pure ⟨plainId_quiet PyProof.Rows.F.plain_set_update_loop _, ih (i + 1) _ (by omega) hlt (W.frame _ s' _ _ hst' (Nat.le_succ _) fun b hb o e => ?_) hSi fun s'' hm'' hS'' => ?_⟩
    · rw [hsb.2 b (fun h : b = S => hSf (by rw [← h]; exact hb))]; exact e
    · refine hR s'' (Moved.trans W.gtrans ((hm.mono hsub).then_heap (Nat.le_succ _) fun b o hb e => ?_) hm'') hS''
      rw [hsb.2 b (fun h : b = S => hb (by rw [h]; exact List.mem_cons_self))]; exact e
theorem strs_val : ∀ {us : List Value} {xs : List Str}, PyProof.Rows.StrsAre us xs → ∀ (i : Nat) (v : Value), us[i]? = some v → ∃ z t, xs[i]? = some z ∧ v = .str z t
  | _, _, .nil, i, v, h => by simp at h
  | _, _, .cons n t hr, 0, v, h => by simp at h; exact ⟨n, t, rfl, h.symm⟩
  | _, _, .cons n t hr, i + 1, v, h => by
    simp only [List.getElem?_cons_succ] at h
    obtain ⟨z, t', e, e2⟩ := strs_val hr i v h
    exact ⟨z, t', by simpa using e, e2⟩
set_option maxHeartbeats 6400000 in
theorem call_set_texts {l : Addr} {items : Array Value} {xs : List Str} {Q : Value → Shared → Prop}
    (hh : A.handled = none) (hl : s.heap.IsList l items) (hi : PyProof.Rows.StrsAre items.toList xs) (nd : xs.Nodup) (hb : xs.length + 1 < scanBound)
    (h : ∀ (h' : Heap) (tk : Nat), h'.SetOf (PySem.strKind prog w) s.heap.objs.size (fun k' => decide (k' ∈ xs)) items.size →
      (∀ b o, b < s.heap.objs.size → s.heap.get? b = some o → h'.get? b = some o) → Q (.ref s.heap.objs.size) { s with heap := h', toks := tk }) :
    wpAny (model prog w) A (call (.type "set") [.ref l]) Q E s := by
  have hsz : items.size = xs.length := by rw [← StrsAre.len_eq hi, Array.length_toList]
  obtain ⟨c, tl, hmro⟩ := PySem.F.called_set.mro
  have hmade := PySem.F.called_set.made
  have hsub := PySem.F.called_set.sub
  refine wpAny_call (codeAny_of_tree ?_)
  show wpAny _ _ (callAny (.type "set") _) _ _ _
  refine wpAny_pure ⟨Code.quiet_builtin _ (by decide +kernel), codeAny_builtin PySem.F.entry_type_call ?_⟩
  rw [Around.under_plain (weight_type_call_type "set" [.ref l] []) rfl]
  have h1 := PySem.F.called_set.notType
  have h2 := PySem.F.called_set.canCreate
  have hct := PySem.F.typeCall_set_1 (.ref l)
  repeat (any_goals (first | assumption | wp_step))
  refine codeAny_mono (code_set_new_1 (.ref l) (E := E) (Q₁ := fun obj s₁ => ∃ led : Bool, obj = .ref s.heap.objs.size ∧ s₁ = { s with heap := s.heap.push { cls := .type "set", dict := none, data := .set #[] 0 (.fresh 0 0 led) } }) fun led => ⟨led, rfl, rfl⟩) fun r s₁ hr => ?_
  cases r with
  | error e => exact hr
  | ok fl =>
    cases fl with
    | ret obj =>
      obtain ⟨led, rfl, rfl⟩ := hr
      have hS : (s.heap.push { cls := .type "set", dict := none, data := .set #[] 0 (.fresh 0 0 led) }).get? s.heap.objs.size = some { cls := .type "set", dict := none, data := .set #[] 0 (.fresh 0 0 led) } := Heap.get?_push_size _ rfl
      have hT : Shared.TypeIs { s with heap := s.heap.push { cls := .type "set", dict := none, data := .set #[] 0 (.fresh 0 0 led) } } (.ref s.heap.objs.size) "set" := ⟨_, hS, rfl⟩
      have hli := PySem.F.called_set.init.lookup
      have hbi := PySem.F.called_set.init.bind (.ref s.heap.objs.size)
      repeat (any_goals (first | assumption | wp_step))
      refine codeAny_mono (codeAny_call_builtin (R := wants (fun r s₂ => r = .none ∧ ∃ h' tk, s₂ = { s with heap := h', toks := tk } ∧
          h'.SetOf (PySem.strKind prog w) s.heap.objs.size (fun k' => decide (k' ∈ xs)) items.size ∧
          (∀ b o, b < s.heap.objs.size → s.heap.get? b = some o → h'.get? b = some o)) E) PySem.F.called_set.init.plain PySem.F.entry_set_init (check_set_init_1 hT ?_)) fun r₂ s₂ hr₂ => ?_
      · obtain ⟨ol, hol, hcl, nl, hdl⟩ := hl
        obtain ⟨ocls, odict, odata, oslots⟩ := ol
        simp only at hcl hdl
        subst hcl; subst hdl
        have hol' : (s.heap.push { cls := .type "set", dict := none, data := .set #[] 0 (.fresh 0 0 led) }).get? l = some { cls := .type "list", dict := odict, data := .seq items nl, slots := oslots } := Heap.get?_push_of_some _ hol
        have hsls := PySem.F.sub_list_set
        have hslf := PySem.F.sub_list_frozenset
        have hne : (Value.type "list" == Value.type "dict") = false := by decide
        have hl1 : (s.heap.push { cls := .type "set", dict := none, data := .set #[] 0 (.fresh 0 0 led) }).IsList l items := ⟨_, hol', rfl, nl, rfl⟩
        unfold Builtin.«set.__init__» noKeywords Builtin.Frozenset.updateFrom
        generalize hPI : pyIter = PI
        wp_walk
        subst hPI
        refine wpAny_pyIter_list hl1 ?_
        refine wpAny_bind (wpAny_runValue ?_)
        have hlS : l < s.heap.objs.size := Heap.lt_size hol
        have hh3 : A.in1.in1.in1.handled = none := by simp [hh]
        have hneI : l ≠ (s.heap.push { cls := .type "set", dict := none, data := .set #[] 0 (.fresh 0 0 led) }).objs.size := by
          rw [Heap.size_push]; exact Nat.ne_of_lt (Nat.lt_succ_of_lt hlS)
        have hSf : s.heap.objs.size ∉ [(s.heap.push { cls := .type "set", dict := none, data := .set #[] 0 (.fresh 0 0 led) }).objs.size, l] := by
          rw [Heap.size_push]; simp only [List.mem_cons, List.mem_singleton, List.not_mem_nil, or_false, not_or]
          exact ⟨Nat.ne_of_lt (Nat.lt_succ_self _), Nat.ne_of_gt hlS⟩
        have hval : ∀ (i : Nat) (v : Value), items[i]? = some v → ∃ z t, xs[i]? = some z ∧ v = .str z t := fun i v hv => strs_val hi i v (by rw [Array.getElem?_toList]; exact hv)
        refine set_texts_loop ((Walks.list hh3 _ l hneI items).toS) s.heap.objs.size
          hSf xs hsz nd hb hval (items.size - 0) 0 _ (by omega) (Nat.zero_le _)
          ⟨⟨_, Heap.get?_push_size _ rfl, rfl, rfl⟩, (hl1.push _)⟩ ?hS0 ?hR
        case hS0 =>
          have hget : ((s.heap.push { cls := .type "set", dict := none, data := .set #[] 0 (.fresh 0 0 led) }).push { cls := .type "list_iterator", data := .fields #[.ref l, .int 0 0] }).get? s.heap.objs.size
              = some { cls := .type "set", dict := none, data := .set #[] 0 (.fresh 0 0 led) } := Heap.get?_push_of_some _ hS
          exact PyProof.Rows.SetOf_congr ((PyProof.Rows.setObjOf_fresh (knd := PySem.strKind prog w) led).setOf hget (by unfold scanBound; omega)) (fun k' => by rw [List.take_zero]; rfl) rfl
        case hR =>
          intro s' hm hS'
          obtain ⟨h', g', d', tk', os'⟩ := s'
          have eg : g' = s.gens := hm.gens
          have ed : d' = s.drawn := hm.drawn
          have eo : os' = s.os := hm.os
          subst eg; subst ed; subst eo
          show wpAny _ _ _ _ _ _
          refine wpAny_pure ?_
          show wpAny _ _ (ret Value.none) _ _ _
          refine wpAny_pure ⟨rfl, h', tk', rfl, hS', fun b o hb e => ?_⟩
          have hb1 : b ≠ s.heap.objs.size := Nat.ne_of_lt hb
          have hb2 : b ≠ (s.heap.push { cls := .type "set", dict := none, data := .set #[] 0 (.fresh 0 0 led) }).objs.size := by
            rw [Heap.size_push]; exact Nat.ne_of_lt (Nat.lt_succ_of_lt hb)
          exact hm.heap b o (by simp only [List.mem_cons, List.mem_singleton, List.not_mem_nil, or_false, not_or]; exact ⟨hb1, hb2⟩) (Heap.get?_push_of_some _ (Heap.get?_push_of_some _ e))
      · cases r₂ with
        | error e => exact hr₂
        | ok fl₂ =>
          cases fl₂ with
          | ret r =>
            obtain ⟨rfl, h', tk, rfl, hS', hk'⟩ := hr₂
            repeat (any_goals (first | assumption | wp_step))
            exact h _ _ hS' hk'
          | _ => exact hr₂.elim
    | _ => exact hr.elim
end
section
variable {X : Cx} {k : Nat} {a : Expr} {ta : TE} {p p2 q pos : Pos}
def tLenSetS (K : PySem.W.Frag) (ta : TE) : TE := fun σ H Q => ta σ H fun x H1 => ∃ l, ∃ xs : List Str, x = .ref l ∧ SqL K H1 l (xs.map V.str) ∧ xs.Nodup ∧ xs.length ≤ 1000 ∧ Q (.int xs.length) H1
theorem pe_lenSetS (hr : Room k X.A) (ha : PE X a ta) (hm : X.mg "len" = none) (hm2 : X.mg "set" = none) (hg : Gl X "len" := by rfl) (hg2 : Gl X "set" := by rfl)
    (na : starEach [a] X.env = (false, eval a X.env) :: starEach [] X.env := by rfl) : PE X (.Call (.Name "len" p) [.Call (.Name "set" p2) [a] [] q] [] pos) (tLenSetS X.K ta) := by
  refine ⟨fun pins s σ H Q I h => ?_⟩
  refine Call_ (ld_blt I hg hm boot_len ?_)
  refine PyProof.Rows.callWith_builtin1 (PyProof.Rows.args_cons ?_ rfl) rfl rfl
  refine Call_ (ld_blt I hg2 hm2 boot_set ?_)
  refine PyProof.Rows.callWith_type1 (PyProof.Rows.args_cons (thn (ha.run pins s σ H _ I h) fun v s1 ⟨x, H1, I1, r1, q1⟩ => PyProof.Rows.args_nil ?_) na) na rfl
  obtain ⟨l, xs, rfl, hq, nd, h1, q1⟩ := q1
  cases r1
  obtain ⟨its, r, pl, hz⟩ := I1.list hq
  refine call_set_texts hr.hd pl.isList (by simpa using strsAre_of r) nd (by unfold scanBound; omega) fun h' tk hS hk => PyProof.Rows.args_nil ?_
  have hl : its.toArray.size = xs.length := by rw [List.size_toArray, ← r.length, List.length_map]
  rw [hl] at hS
  obtain ⟨o, es, ep, t, ho, hex, hd, _, _, _, hf, hn⟩ := hS
  have I2 : Inv X pins σ H1 { s1 with heap := h', toks := tk } := I1.kept fun b o e => hk b o (Heap.lt_size e) e
  exact call_len_set ho hex hd hf (by rw [hn] <;> omega) ⟨.int xs.length, H1, I2.tok _, ⟨_, by rw [hn]⟩, q1⟩
end
end FW
/-! OWN RULES, part 5: the rules whose reading names the context's table, with the table as a variable (for the blocks of comprehensions); a dict comprehension given to a local name. -/
namespace FW
open PySem PySem.Spec PyProof.Rows L2
section
variable {X : Cx} {K : PySem.W.Frag} {tg e l o : Expr} {tl ta te : TE} {t : TA} {f : Str} {es : List Expr} {pos p apos : Pos}
theorem k_in (h : X.K = K) : OpR X (compareOp .In) (L2.rIn K false) := h ▸ op_in_seq
theorem k_notIn (h : X.K = K) : OpR X (compareOp .NotIn) (L2.rIn K true) := h ▸ op_notIn_seq
theorem k_eqD (h : X.K = K) (hu : X.A.units + 64 < cLine) : OpR X (compareOp .Eq) (rEqD K) := h ▸ op_eqD hu
theorem k_neD (h : X.K = K) (hu : X.A.units + 64 < cLine) : OpR X (compareOp .NotEq) (rNeD K) := h ▸ op_neD hu
theorem k_inD (h : X.K = K) (hu : X.A.units + 65 < cLine) : OpR X (compareOp .In) (rInD K) := h ▸ op_inD hu
theorem k_ixT (h : X.K = K) : IxR X (rIxT K) := h ▸ ix_tup
theorem k_ixL (h : X.K = K) : IxR X (rIxL K) := h ▸ ix_list
theorem k_list (h : X.K = K) : CallR X (.type "list") (fun xs H Q => ∃ p ys, xs = [.ref p] ∧ (SqL K H p ys ∨ SqT K H p ys) ∧ ∀ l, H l = none → Q (.ref l) (upd H l (.lst ys))) := h ▸ call_list_of
theorem k_len (h : X.K = K) : CallR X (.builtin "len") (fun xs H Q => ∃ x n, xs = [x] ∧ LenV K x H n ∧ Q (.int n) H) := h ▸ call_len
theorem k_all (h : X.K = K) (hc : X.calm = true) : CallR X (.builtin "all") (rAll K) := h ▸ cr_all hc
theorem k_any (h : X.K = K) (hc : X.calm = true) : CallR X (.builtin "any") (rAny K) := h ▸ cr_any hc
theorem k_sortedP (h : X.K = K) : CallR X (.builtin "sorted") (rSortedP K) := h ▸ cr_sortedP
theorem k_sortedS (h : X.K = K) : CallR X (.builtin "sorted") (rSortedS K) := h ▸ cr_sortedS
theorem k_iList (h : X.K = K) (hl : PE X l tl) : PI X tg l (iList K tl) := h ▸ pi_list hl
theorem k_iTup (h : X.K = K) (hl : PE X l tl) : PI X tg l (iTup K tl) := h ▸ pi_tup hl
theorem k_fld (h : X.K = K) (he : PE X e ta) (hb : attributeBase e f X.env (eval e X.env) = eval e X.env) : PE X (.Attribute e f pos) (tFld K ta f) := h ▸ pe_fld he hb
theorem k_slL (h : X.K = K) : SlR X (rSlL K) := h ▸ sl_list
theorem k_truth (h : X.K = K) (ha : PE X e ta) (he : ∀ whole, isTrue e X.env whole = (do let v ← whole; standAt e.pos; holding [v] (truthy v))) :
    PT X e (fun σ H Q => ta σ H fun x H' => ∃ k, TruV K x H' k ∧ Q k H') := h ▸ pt_truth ha he
/-- name = {..} on one line, the name a local -/
theorem ps_setDc {i : Nat} {y : Str} {py : Pos} {kx vx iter : Expr} {ifs : List Expr} {scope : Scope} {own : List (Str × Nat)} {spos : Pos} {wi : TI} {g : TG} {tt : TT} {tk tv : TE} (hc : X.calm = true) (hN : X.N.Nodup) (hy : X.N[i]? = some y) (hyl : X.env.scope.names.lookup y = some .local)
    (hsw : swapsWith (.DictComp kx vx [⟨tg, iter, ifs, 0⟩] scope pos) (some (.Name y py)) spos.line X.env = pure true) (hi : PI X tg iter wi) (ok : BlkOk X.N X.env.scope scope own)
    (hg : ∀ (s : Shared) (H : Hp) (C : Addr) (cl : List (Str × Addr)) (fp : List Addr), PG (X.blk s H scope (compEnvC scope cl C X.env) fp) tg g) (ht : ∀ (s : Shared) (H : Hp) (C : Addr) (cl : List (Str × Addr)) (fp : List Addr), PTs (X.blk s H scope (compEnvC scope cl C X.env) fp) ifs tt)
    (hk : ∀ (s : Shared) (H : Hp) (C : Addr) (cl : List (Str × Addr)) (fp : List Addr), PE (X.blk s H scope (compEnvC scope cl C X.env) fp) kx tk)
    (he : ∀ (s : Shared) (H : Hp) (C : Addr) (cl : List (Str × Addr)) (fp : List Addr), PE (X.blk s H scope (compEnvC scope cl C X.env) fp) vx tv) (hs : ∀ x, foldedSetIterable iter X.env x = pure x := by intro _; rfl) :
    PS X (.Assign [.Name y py] (.DictComp kx vx [⟨tg, iter, ifs, 0⟩] scope pos) spos) (tAsg (tDc wi g tt tk tv (own.map (·.2))) (gName i)) := by
  refine ⟨fun pins s σ H D I h => ?_⟩
  rw [exec_Assign_Name_used _ _ _ _ hsw]
  refine wpAny_bind (wpAny_standAt (wpAny_bind ?_))
  show wpAny _ X.A (do let _ ← comprehension (.DictComp kx vx [⟨tg, iter, ifs, 0⟩] scope pos) scope X.env (firstIterPos [⟨tg, iter, ifs, 0⟩] pos) newDict false (eval iter X.env) (some (assign (.Name y py) X.env))) _ _ s
  have h : tDc wi g tt tk tv (own.map (·.2)) σ H (fun x H1 => gName i x σ H1 D.nx) := h
  refine wpAny_bind (thn (dc_core (Qf := fun _ s' => SP X pins D .next s') hc hN I hi ok hg ht hk he hs h fun L C s' m H' I' q hn f => ?_) fun _ s' hq => wpAny_pure (wpAny_pure hq))
  show wpAny _ _ (assign (.Name y py) X.env (.ref L)) _ _ _
  refine wpAny_assign_Name (store_ok2 (v := V.ref L) I' hN hy (.inl hyl) rfl (fun s2 I2 ⟨a, sb, ha⟩ => ?_) (.inr hyl))
  obtain ⟨f0, f1, f2, f3, f4, f5⟩ := f
  have haC : C ≠ a := by
    rcases ha with z | z
    · rw [z]; exact f1
    · exact fun e => f4 y a z e.symm
  refine ⟨m, hn.sameBut sb haC, fun h3 sb3 => ?_⟩
  exact ⟨_, H', I2.turned (t' := s2.toks) (fun b o hb e => (sb3.2 b hb).trans e) f0 f1 f3 f4 f5, q⟩
theorem sw_trueD {kx vx : Expr} {gs : List Comprehension} {scope : Scope} {py : Pos} {y : Str} {l : Nat} {env : Env} (hk : env.scope.kind = .function) (hy : env.scope.names.lookup y = some .local) (hl : (py.line == pos.line) = true)
    (ha : (scope.names.any fun (n, k) => n == y && (k == .local || k == .cell)) = false) : swapsWith (.DictComp kx vx gs scope pos) (some (.Name y py)) l env = pure true := by
  have ky : env.kindOf y = some .local := hy
  have hb : env.blockKind = .function := by unfold Env.blockKind; rw [hk]; rfl
  unfold swapsWith
  simp only [hb, ky, ha, Expr.pos, hl]
  rfl
end
end FW
/-! Logs that are in order; more readings. -/
namespace FW
open PySem PySem.Spec PyProof.Rows L2 Hd
/-- the letters a name is made of -/
def lettersCps : List Nat := [97, 98, 99, 100, 101, 102, 103, 104, 105, 106, 107, 108, 109, 110, 111, 112, 113, 114, 115, 116, 117, 118, 119, 120, 121, 122, 48, 49, 50, 51, 52, 53, 54, 55, 56, 57]
def NameOk (x : Str) : Prop := 1 ≤ x.length ∧ x.length ≤ 12 ∧ ∀ c ∈ x.cps.toList, c ∈ lettersCps
def EvOk (items : List Str) (grades : Int) (names : List Str) : RB.Ev Str → Prop
  | .ans j i g => j ∈ names ∧ i ∈ items ∧ 0 ≤ g ∧ g ≤ grades
  | .res j => j ∈ names
structure WfL (L : Log) : Prop where
  iname : ∀ x ∈ L.items, NameOk x
  ilen0 : 1 ≤ L.items.length
  ilen : L.items.length ≤ 6
  ind : L.items.Nodup
  jname : ∀ z ∈ L.judges, NameOk z.1
  jlen0 : 1 ≤ L.judges.length
  jlen : L.judges.length ≤ 3
  jnd : (L.judges.map (·.1)).Nodup
  g1 : 1 ≤ L.grades
  g9 : L.grades ≤ 9
  elen : L.events.length ≤ 24
  eok : ∀ e ∈ L.events, EvOk L.items L.grades (L.judges.map (·.1)) e
def kindOf : RB.Ev Str → Str
  | .ans _ _ _ => "answer"
  | .res _ => "reset"
theorem ev_kind {K : PySem.W.Frag} {ta : TE} {σ : L2.St} {G : Hp} {x : RB.Ev Str} (h : EvD rE ta σ G x) : EvD rS (tOp (rIxT K) ta (tC (.int 0))) σ G (kindOf x) := ev_ixT (i := 0) h fun G2 v y e2 r p => by
  subst p
  obtain ⟨a, rfl, ha⟩ := r
  cases y with
  | ans j i g => exact ⟨a, _, _, rfl, ha, rfl, rfl⟩
  | res j => exact ⟨a, _, _, rfl, ha, rfl, rfl⟩
def judgeOf : RB.Ev Str → Str
  | .ans j _ _ => j
  | .res j => j
theorem ev_judge {K : PySem.W.Frag} {ta : TE} {σ : L2.St} {G : Hp} {x : RB.Ev Str} (h : EvD rE ta σ G x) : EvD rS (tOp (rIxT K) ta (tC (.int 1))) σ G (judgeOf x) := ev_ixT (i := 1) h fun G2 v y e2 r p => by
  subst p
  obtain ⟨a, rfl, ha⟩ := r
  cases y with
  | ans j i g => exact ⟨a, _, _, rfl, ha, rfl, rfl⟩
  | res j => exact ⟨a, _, _, rfl, ha, rfl, rfl⟩
theorem ev_item {K : PySem.W.Frag} {ta : TE} {σ : L2.St} {G : Hp} {j i : Str} {g : Int} (h : EvD rE ta σ G (.ans j i g)) : EvD rS (tOp (rIxT K) ta (tC (.int 2))) σ G i := ev_ixT (i := 2) h fun G2 v y e2 r p => by
  subst p
  obtain ⟨a, rfl, ha⟩ := r
  exact ⟨a, _, _, rfl, ha, rfl, rfl⟩
theorem ev_grade {K : PySem.W.Frag} {ta : TE} {σ : L2.St} {G : Hp} {j i : Str} {g : Int} (h : EvD rE ta σ G (.ans j i g)) : EvD FW.rI (tOp (rIxT K) ta (tC (.int 3))) σ G g := ev_ixT (i := 3) h fun G2 v y e2 r p => by
  subst p
  obtain ⟨a, rfl, ha⟩ := r
  exact ⟨a, _, _, rfl, ha, rfl, rfl⟩
def isAns (L : Log) (p : Nat) : Bool := match L.events[p]? with
  | some (.ans _ _ _) => true
  | _ => false
def ansL (L : Log) : List Nat := (List.range L.events.length).filter (isAns L)
def jgOf (L : Log) (p : Nat) : Str := match L.events[p]? with
  | some (.ans j _ _) => j
  | _ => Str.empty
def itOf (L : Log) (p : Nat) : Str := match L.events[p]? with
  | some (.ans _ i _) => i
  | _ => Str.empty
def grOf (L : Log) (p : Nat) : Int := match L.events[p]? with
  | some (.ans _ _ g) => g
  | _ => 0
theorem isAns_at {L : Log} {p : Nat} (h : isAns L p = true) : L.events[p]? = some (.ans (jgOf L p) (itOf L p) (grOf L p)) := by
  unfold isAns at h
  unfold jgOf itOf grOf
  cases q : L.events[p]? with
  | none => rw [q] at h; cases h
  | some e => cases e with
    | ans j i g => rfl
    | res j => rw [q] at h; cases h
theorem isAns_of {L : Log} {p : Nat} {j i : Str} {g : Int} (h : L.events[p]? = some (.ans j i g)) : isAns L p = true ∧ jgOf L p = j ∧ itOf L p = i ∧ grOf L p = g := by
  unfold isAns jgOf itOf grOf
  rw [h]
  exact ⟨rfl, rfl, rfl, rfl⟩
theorem isAns_lt {L : Log} {p : Nat} (h : isAns L p = true) : p < L.events.length := (List.getElem?_eq_some_iff.mp (isAns_at h)).1
theorem mem_ansL {L : Log} {p : Nat} : p ∈ ansL L ↔ isAns L p = true := by
  unfold ansL
  rw [List.mem_filter, List.mem_range]
  exact ⟨fun h => h.2, fun h => ⟨isAns_lt h, h⟩⟩
theorem ansL_nodup {L : Log} : (ansL L).Nodup := List.Pairwise.filter _ List.nodup_range
theorem ansL_pw {L : Log} : (ansL L).Pairwise (· < ·) := List.Pairwise.filter _ List.pairwise_lt_range
theorem ansL_len {L : Log} : (ansL L).length ≤ L.events.length := by
  unfold ansL
  exact Nat.le_trans (List.length_filter_le _ _) (by rw [List.length_range]; exact Nat.le_refl _)
theorem ansOf_iff {L : Log} {j : Str} {p : Nat} : RB.AnsOf L j p ↔ isAns L p = true ∧ jgOf L p = j := by
  constructor
  · rintro ⟨i, g, h⟩
    have := isAns_of h
    exact ⟨this.1, this.2.1⟩
  · rintro ⟨h, rfl⟩
    exact ⟨_, _, isAns_at h⟩
theorem WfL.ansj {L : Log} (W : WfL L) {p : Nat} (h : isAns L p = true) : jgOf L p ∈ L.judges.map (·.1) ∧ itOf L p ∈ L.items ∧ 0 ≤ grOf L p ∧ grOf L p ≤ L.grades := W.eok _ (List.mem_of_getElem? (isAns_at h))
def driftOf (L : Log) (j : Str) : RB.Drift := (look L.judges j).getD .stays
theorem WfL.drift {L : Log} (W : WfL L) {j : Str} (h : j ∈ L.judges.map (·.1)) : (j, driftOf L j) ∈ L.judges := by
  unfold driftOf
  cases q : look L.judges j with
  | none => exact absurd h (look_none.mp q)
  | some d => exact look_some_mem q
theorem WfL.drift_uniq {L : Log} (W : WfL L) {j : Str} {d : RB.Drift} (h : (j, d) ∈ L.judges) : d = driftOf L j := by
  unfold driftOf
  rw [look_of_mem W.jnd h]; rfl
section
variable {α β γ δ : Type} {R : Rp α} {S : Rp β} {T : Rp γ} {σ : L2.St} {G : Hp} {ta tb tc : TE} {K : PySem.W.Frag}
theorem ev_chainI {r r' : Int → Int → Bool} {i j k : Int} (ha : EvD FW.rI ta σ G i) (hb : EvD FW.rI tb σ G j) (hc : EvD FW.rI tc σ G k) : EvD rB (tChain (rI0 fun i j => V.bl (r i j)) (rI0 fun i j => V.bl (r' i j)) ta tb tc) σ G (r i j && r' j k) := fun H e Q q =>
  ha H e _ fun v G2 H2 x n r1 p => hb.mono n.g H2 n.s _ fun w G3 H3 y n2 r2 p2 => by
    subst p p2
    cases r1; cases r2
    refine ⟨x, y, rfl, rfl, r x y, rfl, ?_⟩
    cases hr : r x y with
    | true =>
      rw [if_pos rfl]
      refine hc.mono (n.g.trans n2.g) H3 n2.s _ fun u G4 H4 z n3 r3 p3 => ?_
      subst p3
      cases r3
      exact ⟨y, z, rfl, rfl, q _ G4 H4 _ ((n.trans n2).trans n3) rfl (by show _ = _; rw [hr]; rfl)⟩
    | false =>
      rw [if_neg Bool.false_ne_true]
      exact q _ G3 H3 _ (n.trans n2) rfl (by show _ = _; rw [hr]; rfl)
theorem ev_cmpI {r : Int → Int → Bool} {i j : Int} (ha : EvD FW.rI ta σ G i) (hb : EvD FW.rI tb σ G j) : EvD rB (tOp (rI0 fun i j => V.bl (r i j)) ta tb) σ G (r i j) := ev_I0 ha hb fun _ => rfl
theorem ev_addI {i j : Int} (ha : EvD FW.rI ta σ G i) (hb : EvD FW.rI tb σ G j) : EvD FW.rI (tOp (rI0 fun i j => V.int (i + j)) ta tb) σ G (i + j) := ev_I0 ha hb fun _ => rfl
theorem ev_subI {i j : Int} (ha : EvD FW.rI ta σ G i) (hb : EvD FW.rI tb σ G j) : EvD FW.rI (tOp (rI0 fun i j => V.int (i - j)) ta tb) σ G (i - j) := ev_I0 ha hb fun _ => rfl
theorem ev_int {i : Int} : EvD FW.rI (tC (.int i)) σ G i := ev_c rfl
theorem ev_str {z : Str} : EvD rS (tC (.str z)) σ G z := ev_c rfl
theorem ev_bl {b : Bool} : EvD rB (tC (.bl b)) σ G b := ev_c rfl
/-- len of a tuple -/
theorem ev_lenT {PA : α → Prop} {n : Nat} (h : EvP R ta σ G PA) (hx : ∀ G2 v y, Ex G G2 → R.is G2 v y → PA y → ∃ a vs, v = .ref a ∧ G2 a = some (.tup vs) ∧ vs.length = n) : EvD rN (tCB (fun xs H Q => ∃ x n, xs = [x] ∧ LenV K x H n ∧ Q (.int n) H) (tCons ta tNil)) σ G n := ev_cb1 h fun G2 v y e r p H e2 Q q => by
  obtain ⟨a, vs, rfl, ha, hl⟩ := hx G2 v y e r p
  exact ⟨_, n, rfl, .inr ⟨vs, SqT.of (e2 a _ ha), hl.symm⟩, q _ G2 H n (Nxt.refl e2) rfl rfl⟩
theorem ev_lenStr {z : Str} (h : EvD rS ta σ G z) (hz : z.length ≤ 100000) : EvD rN (tCB (fun xs H Q => ∃ z : Str, xs = [.str z] ∧ z.length ≤ sizeLine ∧ Q (.int z.length) H) (tCons ta tNil)) σ G z.length := ev_cb1 h fun G2 v y e r p H e2 Q q => by
  subst p
  cases r
  exact ⟨_, rfl, Nat.le_trans hz (by decide), q _ G2 H _ (Nxt.refl e2) rfl rfl⟩
/-- x in a tuple of texts, of ints -/
theorem ev_min2 {i j : Int} (ha : EvD FW.rI ta σ G i) (hb : EvD FW.rI tb σ G j) : EvD FW.rI (tCB (fun xs H Q => ∃ i j : Int, xs = [.int i, .int j] ∧ Q (.int (if j < i then j else i)) H) (tCons ta (tCons tb tNil))) σ G (if j < i then j else i) := ev_cb2 ha hb fun G2 v x w y e r p r2 p2 H e2 Q q => by
  subst p p2; cases r; cases r2
  exact ⟨_, _, rfl, q _ G2 H _ (Nxt.refl e2) rfl rfl⟩
theorem ev_max2 {i j : Int} (ha : EvD FW.rI ta σ G i) (hb : EvD FW.rI tb σ G j) : EvD FW.rI (tCB (fun xs H Q => ∃ i j : Int, xs = [.int i, .int j] ∧ Q (.int (if j > i then j else i)) H) (tCons ta (tCons tb tNil))) σ G (if j > i then j else i) := ev_cb2 ha hb fun G2 v x w y e r p r2 p2 H e2 Q q => by
  subst p p2; cases r; cases r2
  exact ⟨_, _, rfl, q _ G2 H _ (Nxt.refl e2) rfl rfl⟩
theorem ev_int1 {i : Int} (h : EvD FW.rI ta σ G i) : EvD FW.rI (tCB (fun xs H Q => (∃ i : Int, xs = [.int i] ∧ Q (.int i) H) ∨ ∃ k : Bool, xs = [.bl k] ∧ Q (.int (if k = true then 1 else 0)) H) (tCons ta tNil)) σ G i := ev_cb1 h fun G2 v y e r p H e2 Q q => by
  subst p; cases r
  exact .inl ⟨_, rfl, q _ G2 H _ (Nxt.refl e2) rfl rfl⟩
theorem ev_abs {i : Int} (h : EvD FW.rI ta σ G i) : EvD FW.rI (tCB (fun xs H Q => ∃ i : Int, xs = [.int i] ∧ Q (.int (if i < 0 then -i else i)) H) (tCons ta tNil)) σ G (if i < 0 then -i else i) := ev_cb1 h fun G2 v y e r p H e2 Q q => by
  subst p; cases r
  exact ⟨_, rfl, q _ G2 H _ (Nxt.refl e2) rfl rfl⟩
/-- min, max with default=, of a list of Nats -/
theorem pd_natsP {P : List Nat → Prop} {G2 : Hp} {vs : List V} {ns : List Nat} (h : Pd (rN.is G2) vs ns) : vs = (ns.map fun n : Nat => (n : Int)).map V.int := pd_nats h
theorem ev_minD {P : List Nat → Prop} {U : Rp δ} {PD : δ → Prop} {PZ : δ → Prop} (h : EvP (rL rN) ta σ G P) (hd : EvP U tb σ G PD) (h0 : ∀ d, PD d → P [] → PZ d) (h1 : ∀ ns m, P ns → m ∈ ns → (∀ y ∈ ns, m ≤ y) → ∃ d, (∀ G, U.is G (.int (m : Int)) d) ∧ PZ d) :
    EvP U (tCKw (rMinD K) (tCons ta tNil) (tCons tb tNil)) σ G PZ := fun H e Q q =>
  h H e _ fun v G2 H2 x n r p => hd.mono n.g H2 n.s _ fun w G3 H3 d n2 r2 p2 => by
    obtain ⟨a, vs, rfl, ha, hp⟩ := (rL rN).ex n2.g r
    refine ⟨a, x.map fun n : Nat => (n : Int), w, rfl, rfl, SqL.of (by rw [← pd_nats hp]; exact n2.s a _ ha), fun e0 => ?_, fun m hm hy => ?_⟩
    · have : x = [] := List.map_eq_nil_iff.mp e0
      subst this
      exact q w G3 H3 d (n.trans n2) r2 (h0 d p2 p)
    · obtain ⟨k, hk, rfl⟩ := List.mem_map.mp hm
      obtain ⟨d', hd', z⟩ := h1 x k p hk fun y hyx => by
        have := hy y (List.mem_map.mpr ⟨y, hyx, rfl⟩)
        omega
      exact q _ G3 H3 d' (n.trans n2) (hd' _) z
theorem ev_maxD {P : List Nat → Prop} {U : Rp δ} {PD : δ → Prop} {PZ : δ → Prop} (h : EvP (rL rN) ta σ G P) (hd : EvP U tb σ G PD) (h0 : ∀ d, PD d → P [] → PZ d) (h1 : ∀ ns m, P ns → m ∈ ns → (∀ y ∈ ns, y ≤ m) → ∃ d, (∀ G, U.is G (.int (m : Int)) d) ∧ PZ d) :
    EvP U (tCKw (rMaxD K) (tCons ta tNil) (tCons tb tNil)) σ G PZ := fun H e Q q =>
  h H e _ fun v G2 H2 x n r p => hd.mono n.g H2 n.s _ fun w G3 H3 d n2 r2 p2 => by
    obtain ⟨a, vs, rfl, ha, hp⟩ := (rL rN).ex n2.g r
    refine ⟨a, x.map fun n : Nat => (n : Int), w, rfl, rfl, SqL.of (by rw [← pd_nats hp]; exact n2.s a _ ha), fun e0 => ?_, fun m hm hy => ?_⟩
    · have : x = [] := List.map_eq_nil_iff.mp e0
      subst this
      exact q w G3 H3 d (n.trans n2) r2 (h0 d p2 p)
    · obtain ⟨k, hk, rfl⟩ := List.mem_map.mp hm
      obtain ⟨d', hd', z⟩ := h1 x k p hk fun y hyx => by
        have := hy y (List.mem_map.mpr ⟨y, hyx, rfl⟩)
        omega
      exact q _ G3 H3 d' (n.trans n2) (hd' _) z
/-- is None, is not None -/
theorem ev_isN {x : Option α} (h : EvD (rO R) ta σ G x) : EvD rB (tOp (fun x y H Q => y = V.non ∧ Q (V.bl (decide (x = V.non))) H) ta (tC .non)) σ G x.isNone := fun H e Q q => h H e _ fun v G2 H2 y n r p => by
  subst p
  refine ⟨rfl, q _ G2 H2 _ n rfl ?_⟩
  cases y with
  | none => rw [show v = .non from r]; rfl
  | some z => exact decide_eq_false r.1
theorem ev_isNP {PA : Option α → Prop} (h : EvP (rO R) ta σ G PA) : EvP rB (tOp (fun x y H Q => y = V.non ∧ Q (V.bl (decide (x = V.non))) H) ta (tC .non)) σ G (fun b => ∃ x, PA x ∧ b = x.isNone) := fun H e Q q => h H e _ fun v G2 H2 y n r p => by
  refine ⟨rfl, q _ G2 H2 _ n rfl ⟨y, p, ?_⟩⟩
  cases y with
  | none => rw [show v = .non from r]; rfl
  | some z => exact decide_eq_false r.1
/-- a test by what is known of it -/
theorem et_P {P : Bool → Prop} (h : EvP rB ta σ G P) {H : Hp} (e : Ex G H) {Q : Bool → Hp → Prop} (q : ∀ b G2 H2, Nxt G H G2 H2 → P b → Q b H2) : tTest ta σ H Q := h H e _ fun v G2 H2 x n r p => ⟨x, r, q x G2 H2 n p⟩
/-- sorted -/
theorem ev_sortedS {xs : List Str} (h : EvD (rL rS) ta σ G xs) (hl : xs.length < 64) : EvP (rL rS) (tCB (rSortedS K) (tCons ta tNil)) σ G (fun ys => ys.Perm xs ∧ sortedS ys = true) := ev_cb1 h fun G2 v x e r p H e2 Q q => by
  subst p
  obtain ⟨a, vs, rfl, ha, hp⟩ := r
  refine ⟨a, x, rfl, SqL.of (by rw [← pd_strs hp]; exact e2 a _ ha), hl, fun ys p h1 h2 hn => ?_⟩
  have n := Nxt.new (o := .lst (ys.map V.str)) e2 hn
  exact q _ _ _ ys n ⟨p, _, rfl, upd_same, strs_pd ys⟩ ⟨h1, h2⟩
end
/-! what T gives, by name -/
section
variable {K : PySem.W.Frag} {mg : Str → Option Value} {σ : L2.St} {G : Hp} {ta : TE} {L : Log}
theorem tx_items (T : Tx K mg) (h : EvD (rLog K) ta σ G L) : EvD (rL rS) (tFld K ta "_items") σ G L.items := ev_items (T.cls 37 rfl) (T.noat 44 rfl) h
theorem tx_grades (T : Tx K mg) (h : EvD (rLog K) ta σ G L) : EvD FW.rI (tFld K ta "_grades") σ G L.grades := ev_grades (T.cls 37 rfl) (T.noat 45 rfl) h
theorem tx_judges (T : Tx K mg) (h : EvD (rLog K) ta σ G L) : EvD (rL rJ) (tFld K ta "_judges") σ G L.judges := ev_judges (T.cls 37 rfl) (T.noat 46 rfl) h
theorem tx_events (T : Tx K mg) (h : EvD (rLog K) ta σ G L) : EvD (rL rE) (tFld K ta "_events") σ G L.events := ev_events (T.cls 37 rfl) (T.noat 47 rfl) h
end
/-! statements that others follow -/
section
variable {κ α β γ : Type} [DecidableEq κ] {R : Rp α} {RK : Rp κ} {σ : L2.St} {G H : Hp} {te ty tv : TE} {t : TT} {K : PySem.W.Frag} {D : Ends} {tu tw u : TS} {g : TG}
theorem q_asgP {i : Nat} {PA : α → Prop} (h : EvP R te σ G PA) (e : Ex G H) (k : ∀ v G2 H2 x, Nxt G H G2 H2 → R.is G2 v x → PA x → u D (σ.set i (some v)) H2) : tSeq (tAsg te (gName i)) u D σ H := s_asgP (D := { D with nx := u D }) h e k
theorem q_asg {i : Nat} {x : α} (h : EvD R te σ G x) (e : Ex G H) (k : ∀ v G2 H2, Nxt G H G2 H2 → R.is G2 v x → u D (σ.set i (some v)) H2) : tSeq (tAsg te (gName i)) u D σ H := s_asg (D := { D with nx := u D }) h e k
theorem q_asgT {PA : α → Prop} (h : EvP R te σ G PA) (e : Ex G H) (k : ∀ v G2 H2 x, Nxt G H G2 H2 → R.is G2 v x → PA x → ∃ σ2, Tg g v σ G2 σ2 ∧ u D σ2 H2) : tSeq (tAsg te g) u D σ H := s_asgT (D := { D with nx := u D }) h e k
theorem q_dropP {PA : α → Prop} (h : EvP R te σ G PA) (e : Ex G H) (k : ∀ v G2 H2 x, Nxt G H G2 H2 → R.is G2 v x → PA x → u D σ H2) : tSeq (tDrop te) u D σ H := s_dropP (D := { D with nx := u D }) h e k
theorem q_newL {i : Nat} (e : Ex G H) (k : ∀ l H2, Nxt G H G H2 → Own H G H2 l (.lst []) → u D (σ.set i (some (.ref l))) H2) : tSeq (tAsg (tLst tNil) (gName i)) u D σ H := s_newL (D := { D with nx := u D }) e k
theorem q_newK {i : Nat} (e : Ex G H) (k : ∀ l H2, Nxt G H G H2 → Own H G H2 l (.dK []) → u D (σ.set i (some (.ref l))) H2) : tSeq (tAsg tDNewK (gName i)) u D σ H := s_newK (D := { D with nx := u D }) e k
theorem q_newT {i : Nat} (e : Ex G H) (k : ∀ l H2, Nxt G H G H2 → Own H G H2 l (.dT []) → u D (σ.set i (some (.ref l))) H2) : tSeq (tAsg tDNewT (gName i)) u D σ H := s_newT (D := { D with nx := u D }) e k
theorem q_if {b : Bool} (h : EvT t σ G b) (e : Ex G H) (h1 : b = true → ∀ G2 H2, Nxt G H G2 H2 → tu { D with nx := u D } σ H2) (h2 : b = false → ∀ G2 H2, Nxt G H G2 H2 → tw { D with nx := u D } σ H2) : tSeq (tIfS t tu tw) u D σ H := s_if (D := { D with nx := u D }) h e h1 h2
/-- if without else -/
theorem q_if1 {b : Bool} (h : EvT t σ G b) (e : Ex G H) (h1 : b = true → ∀ G2 H2, Nxt G H G2 H2 → tu { D with nx := u D } σ H2) (h2 : b = false → ∀ G2 H2, Nxt G H G2 H2 → u D σ H2) : tSeq (tIfS t tu tNext) u D σ H := s_if (D := { D with nx := u D }) h e h1 h2
theorem q_for {wi : TI} {PX : List α → Prop} (hi : EvI R wi σ G PX) (e : Ex G H)
    (k : ∀ xs G1 H1, PX xs → Nxt G H G1 H1 → ∃ Pv : Nat → L2.St → Hp → Hp → Prop, Pv 0 σ G1 H1 ∧
      (∀ i x σ' G' H', xs[i]? = some x → Ex G1 G' → Ex G' H' → Pv i σ' G' H' → ∀ v G2 H2, Nxt G' H' G2 H2 → R.is G2 v x →
        g v σ' H2 fun σ2 H3 => tu { D with nx := fun σ3 H4 => ∃ G4, Ex G1 G4 ∧ Ex G4 H4 ∧ Pv (i + 1) σ3 G4 H4, ct := fun σ3 H4 => ∃ G4, Ex G1 G4 ∧ Ex G4 H4 ∧ Pv (i + 1) σ3 G4 H4, bk := u D } σ2 H3) ∧
      (∀ σ' G' H', Ex G1 G' → Ex G' H' → Pv xs.length σ' G' H' → u D σ' H')) : tSeq (tFor wi g tu) u D σ H := s_for (D := { D with nx := u D }) hi e k
theorem q_app {Hs : Hp} {l : Addr} {us : List V} {i : Nat} {PA : α → Prop} (own : Own Hs G H l (.lst us)) (hi : σ[i]? = some (some (.ref l))) (h : EvP R te σ G PA) (e : Ex G H) (hz : us.length < 100000)
    (k : ∀ v G2 H2 x, Nxt G H G2 H2 → R.is G2 v x → PA x → Own Hs G2 (upd H2 l (.lst (us ++ [v]))) l (.lst (us ++ [v])) → u D σ (upd H2 l (.lst (us ++ [v])))) :
    tSeq (tDrop (tBM K "list" rAppend (tVar i) (tCons te tNil))) u D σ H := s_app (D := { D with nx := u D }) own hi h e hz k
theorem q_dput {Hs : Hp} {l : Addr} {us : List (Key × V)} {i : Nat} {kf : κ → Key} {x : κ} {PA : α → Prop} (hkr : KeyR RK kf) (own : Own Hs G H l (.dK us)) (hi : σ[i]? = some (some (.ref l))) (hv : EvP R tv σ G PA) (hk : EvD RK ty σ G x) (e : Ex G H) (hz : us.length < 100000)
    (k : ∀ v G2 H2 y, Nxt G H G2 H2 → R.is G2 v y → PA y → Own Hs G2 (upd H2 l (.dK (putK us (kf x) v))) l (.dK (putK us (kf x) v)) → u D σ (upd H2 l (.dK (putK us (kf x) v)))) :
    tSeq (sDPut (tVar i) ty tv) u D σ H := s_dput (D := { D with nx := u D }) hkr own hi hv hk e hz k
end
/-- what every promise on a log leans on -/
abbrev aLog (K : PySem.W.Frag) : Log → Hp → List V → Prop := fun L G vs => WfL L ∧ ∃ v, vs = [v] ∧ (rLog K).is G v L
abbrev aLogN (K : PySem.W.Frag) : Log × Nat → Hp → List V → Prop := fun i G vs => WfL i.1 ∧ ∃ v, vs = [v, .int (i.2 : Int)] ∧ (rLog K).is G v i.1
abbrev aLogP (K : PySem.W.Frag) : Log × Nat → Hp → List V → Prop := fun i G vs => WfL i.1 ∧ isAns i.1 i.2 = true ∧ ∃ v, vs = [v, .int (i.2 : Int)] ∧ (rLog K).is G v i.1
abbrev aLogJ (K : PySem.W.Frag) : Log × Str → Hp → List V → Prop := fun i G vs => WfL i.1 ∧ i.2 ∈ i.1.judges.map (·.1) ∧ ∃ v, vs = [v, .str i.2] ∧ (rLog K).is G v i.1
section
variable {β : Type} {K : PySem.W.Frag} {σ : L2.St} {G : Hp} {ta tb : TE} {L : Log} {Rb : Rp β} {m : Str} {E : XK}
theorem ev_lm0 {post : Log → β → Prop} (W : WfL L) (h : EvD (rLog K) ta σ G L) (hm : ∀ v1 v2 v3 v4 : V, (logFs v1 v2 v3 v4).lookup m = none := by intros; rfl) : EvP Rb (tMeth (cLog K) m (mkSp (aLog K) Rb post) [] E ta tNil) σ G (post L) :=
  ev_meth0 (log_ins hm) h fun G3 v1 x1 e3 r1 p1 => by
    subst p1
    exact mkSp_use (args := aLog K) x1 ⟨W, v1, rfl, r1⟩
theorem ev_lp {post : Log → β → Prop} (W : WfL L) (h : EvD (rLog K) ta σ G L) (m : Str) (hm : ∀ v1 v2 v3 v4 : V, (logFs v1 v2 v3 v4).lookup m = none) : EvP Rb (tProp (cLog K) (mkSp (aLog K) Rb post) [] E ta) σ G (post L) :=
  ev_prop (m := m) (log_ins hm) h fun G3 v1 x1 e3 r1 p1 => by
    subst p1
    exact mkSp_use (args := aLog K) x1 ⟨W, v1, rfl, r1⟩
theorem ev_lmN {post : Log × Nat → β → Prop} {p : Nat} (W : WfL L) (h : EvD (rLog K) ta σ G L) (h2 : EvD rN tb σ G p) (hm : ∀ v1 v2 v3 v4 : V, (logFs v1 v2 v3 v4).lookup m = none := by intros; rfl) : EvP Rb (tMeth (cLog K) m (mkSp (aLogN K) Rb post) [] E ta (tCons tb tNil)) σ G (post (L, p)) :=
  ev_meth1 (log_ins hm) h h2 fun G3 v1 x1 w1 y1 e3 r1 p1 r2 p2 => by
    subst p1 p2
    cases r2
    exact mkSp_use (args := aLogN K) (x1, y1) ⟨W, v1, rfl, r1⟩
theorem ev_lmP {post : Log × Nat → β → Prop} {p : Nat} (W : WfL L) (hp : isAns L p = true) (h : EvD (rLog K) ta σ G L) (h2 : EvD rN tb σ G p) (hm : ∀ v1 v2 v3 v4 : V, (logFs v1 v2 v3 v4).lookup m = none := by intros; rfl) : EvP Rb (tMeth (cLog K) m (mkSp (aLogP K) Rb post) [] E ta (tCons tb tNil)) σ G (post (L, p)) :=
  ev_meth1 (log_ins hm) h h2 fun G3 v1 x1 w1 y1 e3 r1 p1 r2 p2 => by
    subst p1 p2
    cases r2
    exact mkSp_use (args := aLogP K) (x1, y1) ⟨W, hp, v1, rfl, r1⟩
theorem ev_lmJ {post : Log × Str → β → Prop} {j : Str} (W : WfL L) (hj : j ∈ L.judges.map (·.1)) (h : EvD (rLog K) ta σ G L) (h2 : EvD rS tb σ G j) (hm : ∀ v1 v2 v3 v4 : V, (logFs v1 v2 v3 v4).lookup m = none := by intros; rfl) : EvP Rb (tMeth (cLog K) m (mkSp (aLogJ K) Rb post) [] E ta (tCons tb tNil)) σ G (post (L, j)) :=
  ev_meth1 (log_ins hm) h h2 fun G3 v1 x1 w1 y1 e3 r1 p1 r2 p2 => by
    subst p1 p2
    cases r2
    exact mkSp_use (args := aLogJ K) (x1, y1) ⟨W, hj, v1, rfl, r1⟩
/-- a function of a log alone -/
theorem ev_lc0 {post : Log → β → Prop} (W : WfL L) (h : EvD (rLog K) ta σ G L) : EvP Rb (tCall (mkSp (aLog K) Rb post) [] E (tCons ta tNil)) σ G (post L) :=
  ev_call1 h fun G3 v1 x1 e3 r1 p1 => by
    subst p1
    exact mkSp_use (args := aLog K) x1 ⟨W, v1, rfl, r1⟩
end
end FW
/-! Log: properties, answers. -/
namespace FW
open PySem PySem.Spec PyProof.Rows L2 Hd
section
variable {P : Program} {w : World} {K : PySem.W.Frag} {mg : Str → Option Value} {base : Heap}

abbrev N_Log_item_names : List Str := ["self"]
theorem sc_Log_item_names : FnScope N_Log_item_names ["self"] (defScope s_Log_item_names) := ⟨rfl, rfl, rfl, by decide +kernel, rfl, by decide +kernel, by decide +kernel⟩
theorem mk_Log_item_names (T : Tx K mg) {sp : Sp} (len : ∀ vs H Q E, sp vs H Q E → vs.length = 1)
    (hb : ∀ (cdv : Value) (A : Around) (outer : List Env) (s : Shared) (H : Hp) (vs : List V) (Q : VK) (E : XK), Room 0 (A.deeper (envOfC "Log.item_names" (defScope s_Log_item_names) s.heap.objs.size (Hd.pg "Log" "item_names" K) cdv)) → sp vs H Q E →
      ∃ t, PSs (cxOf CX0 P w K mg base N_Log_item_names "Log.item_names" (defScope s_Log_item_names) (Hd.pg "Log" "item_names" K) cdv A outer s H E).nox (defBody s_Log_item_names) t ∧ t { nx := fun _ H' => Q .non H', rt := Q } (start N_Log_item_names vs) H) : Prp P w K mg base 1 (He.ga K "Log") "item_names" sp := by
  obtain ⟨fd, F⟩ := T.fn 33 rfl
  have b : Binds K fd ["self"] [] := F.binds fun _ _ _ _ _ _ us hl => match us, hl with | [_], _ => rfl
  exact ⟨_, _, fd, _, T.cls 37 rfl, T.prop 0 rfl, F.ok sc_Log_item_names len hb, b⟩
def sp_Log_item_names (K : PySem.W.Frag) : Sp := mkSp (aLog K) (rL rS) (fun L y => y = L.items)
theorem ln_Log_item_names {K : PySem.W.Frag} : ∀ vs H Q E, sp_Log_item_names K vs H Q E → vs.length = 1 := by
  rintro vs H Q E ⟨G, i, e, h, _⟩
  have h : (aLog K) i G vs := h
  obtain ⟨_, v, rfl, _⟩ := h; rfl
theorem ok_Log_item_names (T : Tx K mg) : Prp P w K mg base 1 (He.ga K "Log") "item_names" (sp_Log_item_names K) := mk_Log_item_names T ln_Log_item_names (fun cdv A outer s H vs Q E hr h => by
  have hu := hu_of hr
  have nd := sc_Log_item_names.nd
  obtain ⟨G, i, e, ha, q⟩ := h
  refine ⟨_, pss_one (ps_ret (pe_callTy (k_list (K := K) rfl) (by rfl) (T.free 82 rfl) (by decide +kernel) (pa_cons (k_fld (K := K) rfl (pv 0) rfl) pa_nil))), ?_⟩
  obtain ⟨W, v, rfl, hv⟩ := ha
  exact s_ret (ev_list (tx_items T (ev_var rfl hv))) e fun v G2 H2 n r => q v G2 H2 _ n r rfl)
abbrev N_Log_grades : List Str := ["self"]
theorem sc_Log_grades : FnScope N_Log_grades ["self"] (defScope s_Log_grades) := ⟨rfl, rfl, rfl, by decide +kernel, rfl, by decide +kernel, by decide +kernel⟩
theorem mk_Log_grades (T : Tx K mg) {sp : Sp} (len : ∀ vs H Q E, sp vs H Q E → vs.length = 1)
    (hb : ∀ (cdv : Value) (A : Around) (outer : List Env) (s : Shared) (H : Hp) (vs : List V) (Q : VK) (E : XK), Room 0 (A.deeper (envOfC "Log.grades" (defScope s_Log_grades) s.heap.objs.size (Hd.pg "Log" "grades" K) cdv)) → sp vs H Q E →
      ∃ t, PSs (cxOf CX0 P w K mg base N_Log_grades "Log.grades" (defScope s_Log_grades) (Hd.pg "Log" "grades" K) cdv A outer s H E).nox (defBody s_Log_grades) t ∧ t { nx := fun _ H' => Q .non H', rt := Q } (start N_Log_grades vs) H) : Prp P w K mg base 1 (He.ga K "Log") "grades" sp := by
  obtain ⟨fd, F⟩ := T.fn 34 rfl
  have b : Binds K fd ["self"] [] := F.binds fun _ _ _ _ _ _ us hl => match us, hl with | [_], _ => rfl
  exact ⟨_, _, fd, _, T.cls 37 rfl, T.prop 1 rfl, F.ok sc_Log_grades len hb, b⟩
def sp_Log_grades (K : PySem.W.Frag) : Sp := mkSp (aLog K) (FW.rI) (fun L y => y = L.grades)
theorem ln_Log_grades {K : PySem.W.Frag} : ∀ vs H Q E, sp_Log_grades K vs H Q E → vs.length = 1 := by
  rintro vs H Q E ⟨G, i, e, h, _⟩
  have h : (aLog K) i G vs := h
  obtain ⟨_, v, rfl, _⟩ := h; rfl
theorem ok_Log_grades (T : Tx K mg) : Prp P w K mg base 1 (He.ga K "Log") "grades" (sp_Log_grades K) := mk_Log_grades T ln_Log_grades (fun cdv A outer s H vs Q E hr h => by
  have hu := hu_of hr
  have nd := sc_Log_grades.nd
  obtain ⟨G, i, e, ha, q⟩ := h
  refine ⟨_, pss_one (ps_ret (k_fld (K := K) rfl (pv 0) rfl)), ?_⟩
  obtain ⟨W, v, rfl, hv⟩ := ha
  exact s_ret (tx_grades T (ev_var rfl hv)) e fun v G2 H2 n r => q v G2 H2 _ n r rfl)
abbrev N_Log_judges : List Str := ["self"]
theorem sc_Log_judges : FnScope N_Log_judges ["self"] (defScope s_Log_judges) := ⟨rfl, rfl, rfl, by decide +kernel, rfl, by decide +kernel, by decide +kernel⟩
theorem mk_Log_judges (T : Tx K mg) {sp : Sp} (len : ∀ vs H Q E, sp vs H Q E → vs.length = 1)
    (hb : ∀ (cdv : Value) (A : Around) (outer : List Env) (s : Shared) (H : Hp) (vs : List V) (Q : VK) (E : XK), Room 0 (A.deeper (envOfC "Log.judges" (defScope s_Log_judges) s.heap.objs.size (Hd.pg "Log" "judges" K) cdv)) → sp vs H Q E →
      ∃ t, PSs (cxOf CX0 P w K mg base N_Log_judges "Log.judges" (defScope s_Log_judges) (Hd.pg "Log" "judges" K) cdv A outer s H E).nox (defBody s_Log_judges) t ∧ t { nx := fun _ H' => Q .non H', rt := Q } (start N_Log_judges vs) H) : Prp P w K mg base 1 (He.ga K "Log") "judges" sp := by
  obtain ⟨fd, F⟩ := T.fn 35 rfl
  have b : Binds K fd ["self"] [] := F.binds fun _ _ _ _ _ _ us hl => match us, hl with | [_], _ => rfl
  exact ⟨_, _, fd, _, T.cls 37 rfl, T.prop 2 rfl, F.ok sc_Log_judges len hb, b⟩
def sp_Log_judges (K : PySem.W.Frag) : Sp := mkSp (aLog K) (rL rJ) (fun L y => y = L.judges)
theorem ln_Log_judges {K : PySem.W.Frag} : ∀ vs H Q E, sp_Log_judges K vs H Q E → vs.length = 1 := by
  rintro vs H Q E ⟨G, i, e, h, _⟩
  have h : (aLog K) i G vs := h
  obtain ⟨_, v, rfl, _⟩ := h; rfl
theorem ok_Log_judges (T : Tx K mg) : Prp P w K mg base 1 (He.ga K "Log") "judges" (sp_Log_judges K) := mk_Log_judges T ln_Log_judges (fun cdv A outer s H vs Q E hr h => by
  have hu := hu_of hr
  have nd := sc_Log_judges.nd
  obtain ⟨G, i, e, ha, q⟩ := h
  refine ⟨_, pss_one (ps_ret (pe_callTy (k_list (K := K) rfl) (by rfl) (T.free 82 rfl) (by decide +kernel) (pa_cons (k_fld (K := K) rfl (pv 0) rfl) pa_nil))), ?_⟩
  obtain ⟨W, v, rfl, hv⟩ := ha
  exact s_ret (ev_list (tx_judges T (ev_var rfl hv))) e fun v G2 H2 n r => q v G2 H2 _ n r rfl)
abbrev N_Log_drift_of : List Str := ["self", "judge", "name", "drift"]
theorem sc_Log_drift_of : FnScope N_Log_drift_of ["self", "judge"] (defScope s_Log_drift_of) := ⟨rfl, rfl, rfl, by decide +kernel, rfl, by decide +kernel, by decide +kernel⟩
theorem mk_Log_drift_of (T : Tx K mg) {sp : Sp} (len : ∀ vs H Q E, sp vs H Q E → vs.length = 2)
    (hb : ∀ (cdv : Value) (A : Around) (outer : List Env) (s : Shared) (H : Hp) (vs : List V) (Q : VK) (E : XK), Room 0 (A.deeper (envOfC "Log.drift_of" (defScope s_Log_drift_of) s.heap.objs.size (He.ma K (He.ga K "Log") "drift_of") cdv)) → sp vs H Q E →
      ∃ t, PSs (cxOf CX0 P w K mg base N_Log_drift_of "Log.drift_of" (defScope s_Log_drift_of) (He.ma K (He.ga K "Log") "drift_of") cdv A outer s H E).nox (defBody s_Log_drift_of) t ∧ t { nx := fun _ H' => Q .non H', rt := Q } (start N_Log_drift_of vs) H) : Met P w K mg base 1 (He.ga K "Log") "drift_of" sp := by
  obtain ⟨fd, F⟩ := T.fn 36 rfl
  have b : Binds K fd ["self", "judge"] [] := F.binds fun _ _ _ _ _ _ us hl => match us, hl with | [_, _], _ => rfl
  exact ⟨_, fd, _, T.cls 37 rfl, T.meth 52 rfl, F.ok sc_Log_drift_of len hb, b⟩
def sp_Log_drift_of (K : PySem.W.Frag) : Sp := mkSp (aLogJ K) (rDf) (fun i y => y = driftOf i.1 i.2)
theorem ln_Log_drift_of {K : PySem.W.Frag} : ∀ vs H Q E, sp_Log_drift_of K vs H Q E → vs.length = 2 := by
  rintro vs H Q E ⟨G, i, e, h, _⟩
  have h : (aLogJ K) i G vs := h
  obtain ⟨_, _, v, rfl, _⟩ := h; rfl
theorem ok_Log_drift_of (T : Tx K mg) : Met P w K mg base 1 (He.ga K "Log") "drift_of" (sp_Log_drift_of K) := mk_Log_drift_of T ln_Log_drift_of (fun cdv A outer s H vs Q E hr h => by
  have hu := hu_of hr
  have nd := sc_Log_drift_of.nd
  obtain ⟨G, i, e, ha, q⟩ := h
  refine ⟨_, pss_cons (ps_for PassesOwn.never rfl (k_iList (K := K) rfl (k_fld (K := K) rfl (pv 0) rfl)) (pg_tup rfl (pgs_cons (pg_name (i := 2) nd rfl (Or.inl rfl)) (pgs_cons (pg_name (i := 3) nd rfl (Or.inl rfl)) pgs_nil))) (pss_one (ps_if (pt_cmpR op_eq (pv 2) (pv 1) (nomark _)) (pss_one (ps_ret (pv 3))) (pss_nil))))
      (pss_one (ps_never)), ?_⟩
  obtain ⟨L, j⟩ := i
  obtain ⟨W, hj, v, rfl, hv⟩ := ha
  refine q_for (ei_list (tx_judges T (ev_var rfl hv))) e (fun xs G1 H1 hx n1 => ?_)
  subst hx
  refine ⟨fun i σ' G' H' => Nxt G H G' H' ∧ (∃ a b, σ' = [some v, some (.str j), a, b]) ∧ ∀ z ∈ L.judges.take i, z.1 ≠ j, ⟨n1, ⟨_, _, rfl⟩, by simp⟩, ?_, ?_⟩
  · rintro i x σ' G' H' hx e1 e2 ⟨nn, ⟨a, b, rfl⟩, hno⟩ u G2 H2 n2 ⟨t, v1, v2, rfl, ht, h1, h2⟩
    refine tg_tup2 ht tg_name tg_name H2 n2.s _ ?_
    refine s_if (et_test (ev_eqS (ev_var rfl h1) (ev_var rfl rfl))) n2.s (fun hb G3 H3 n3 => ?_) (fun hb G3 H3 n3 => ?_)
    · refine s_ret (ev_var rfl (rDf.ex n3.g h2)) n3.s fun w G4 H4 n4 r => q w G4 H4 _ (((nn.trans n2).trans n3).trans n4) r ?_
      have e1 := of_decide_eq_true hb
      have := List.mem_of_getElem? hx
      obtain ⟨x1, x2⟩ := x
      have e1 : x1 = j := e1
      subst e1
      exact W.drift_uniq this
    · refine ⟨G3, (e1.trans n2.g).trans n3.g, n3.s, (nn.trans n2).trans n3, ⟨_, _, rfl⟩, fun z hz => ?_⟩
      rw [List.take_add_one, hx] at hz
      rcases List.mem_append.mp hz with hz | hz
      · exact hno z hz
      · rw [List.mem_singleton.mp hz]
        exact of_decide_eq_false hb
  · rintro σ' G' H' e1 e2 ⟨nn, _, hno⟩
    rw [List.take_length] at hno
    obtain ⟨z, hz, e3⟩ := List.mem_map.mp hj
    exact (hno z hz e3).elim)
abbrev N_Log_is_answer : List Str := ["self", "place"]
theorem sc_Log_is_answer : FnScope N_Log_is_answer ["self", "place"] (defScope s_Log_is_answer) := ⟨rfl, rfl, rfl, by decide +kernel, rfl, by decide +kernel, by decide +kernel⟩
theorem mk_Log_is_answer (T : Tx K mg) {sp : Sp} (len : ∀ vs H Q E, sp vs H Q E → vs.length = 2)
    (hb : ∀ (cdv : Value) (A : Around) (outer : List Env) (s : Shared) (H : Hp) (vs : List V) (Q : VK) (E : XK), Room 0 (A.deeper (envOfC "Log.is_answer" (defScope s_Log_is_answer) s.heap.objs.size (He.ma K (He.ga K "Log") "is_answer") cdv)) → sp vs H Q E →
      ∃ t, PSs (cxOf CX0 P w K mg base N_Log_is_answer "Log.is_answer" (defScope s_Log_is_answer) (He.ma K (He.ga K "Log") "is_answer") cdv A outer s H E).nox (defBody s_Log_is_answer) t ∧ t { nx := fun _ H' => Q .non H', rt := Q } (start N_Log_is_answer vs) H) : Met P w K mg base 1 (He.ga K "Log") "is_answer" sp := by
  obtain ⟨fd, F⟩ := T.fn 37 rfl
  have b : Binds K fd ["self", "place"] [] := F.binds fun _ _ _ _ _ _ us hl => match us, hl with | [_, _], _ => rfl
  exact ⟨_, fd, _, T.cls 37 rfl, T.meth 53 rfl, F.ok sc_Log_is_answer len hb, b⟩
def sp_Log_is_answer (K : PySem.W.Frag) : Sp := mkSp (aLogN K) (rB) (fun i y => y = isAns i.1 i.2)
theorem ln_Log_is_answer {K : PySem.W.Frag} : ∀ vs H Q E, sp_Log_is_answer K vs H Q E → vs.length = 2 := by
  rintro vs H Q E ⟨G, i, e, h, _⟩
  have h : (aLogN K) i G vs := h
  obtain ⟨_, v, rfl, _⟩ := h; rfl
theorem ok_Log_is_answer (T : Tx K mg) : Met P w K mg base 1 (He.ga K "Log") "is_answer" (sp_Log_is_answer K) := mk_Log_is_answer T ln_Log_is_answer (fun cdv A outer s H vs Q E hr h => by
  have hu := hu_of hr
  have nd := sc_Log_is_answer.nd
  obtain ⟨G, i, e, ha, q⟩ := h
  refine ⟨_, pss_one (ps_ret (pe_and (pe_chain op_le op_lt (pe_int) (pv 1) (pe_callB (k_len (K := K) rfl) (by rfl) (T.free 74 rfl) (by decide +kernel) (pa_cons (k_fld (K := K) rfl (pv 0) rfl) pa_nil))) (pe_one (pe_cmpR op_eq (pe_ix (k_ixT (K := K) rfl) (pe_ix (k_ixL (K := K) rfl) (k_fld (K := K) rfl (pv 0) rfl) (pv 1) (fun _ _ => rfl)) (pe_int) (fun _ _ => rfl)) (pe_gs (T.str 91 rfl)) (nomark _))))), ?_⟩
  obtain ⟨L, p⟩ := i
  obtain ⟨W, v, rfl, hv⟩ := ha
  dsimp only at W hv q
  refine s_ret (ev_val (ev_andV (ev_chainI (r := fun i j => decide (i ≤ j)) (r' := fun i j => decide (i < j)) ev_int (ev_N (ev_var rfl rfl)) (ev_N (ev_len (tx_events T (ev_var rfl hv))))) (b := isAns L p) (fun hb => ?_)) ?_) e fun v G2 H2 n r => q v G2 H2 _ n r rfl
  · rw [Bool.and_eq_true, decide_eq_true_eq, decide_eq_true_eq] at hb
    have hp : p < L.events.length := by
      have := hb.2
      dsimp only at this
      omega
    obtain ⟨x, hx⟩ : ∃ x, L.events[p]? = some x := ⟨_, List.getElem?_eq_getElem hp⟩
    refine ev_val (ev_eqS (ev_kind (ev_ixL (tx_events T (ev_var rfl hv)) (ev_N (ev_var rfl rfl)) hx)) ev_str) ?_
    unfold isAns
    rw [hx]
    cases x with
    | ans j i g => exact decide_eq_true rfl
    | res j => exact decide_eq_false (show ¬ (("reset" : Str) = "answer") by decide)
  · cases q : isAns L p with
    | true =>
      have := isAns_lt q
      have h1 : decide ((0 : Int) ≤ (p : Int)) = true := decide_eq_true (by omega)
      have h2 : decide ((p : Int) < (L.events.length : Int)) = true := decide_eq_true (by omega)
      show (decide ((0 : Int) ≤ (p : Int)) && decide ((p : Int) < (L.events.length : Int)) && true) = true
      rw [h1, h2]; rfl
    | false => rw [Bool.and_false])
abbrev N_Log_answers : List Str := ["self", "place"]
theorem sc_Log_answers : FnScope N_Log_answers ["self"] (defScope s_Log_answers) := ⟨rfl, rfl, rfl, by decide +kernel, rfl, by decide +kernel, by decide +kernel⟩
theorem mk_Log_answers (T : Tx K mg) {sp : Sp} (len : ∀ vs H Q E, sp vs H Q E → vs.length = 1)
    (hb : ∀ (cdv : Value) (A : Around) (outer : List Env) (s : Shared) (H : Hp) (vs : List V) (Q : VK) (E : XK), Room 1 (A.deeper (envOfC "Log.answers" (defScope s_Log_answers) s.heap.objs.size (He.ma K (He.ga K "Log") "answers") cdv)) → sp vs H Q E →
      ∃ t, PSs (cxOf CX0 P w K mg base N_Log_answers "Log.answers" (defScope s_Log_answers) (He.ma K (He.ga K "Log") "answers") cdv A outer s H E).nox (defBody s_Log_answers) t ∧ t { nx := fun _ H' => Q .non H', rt := Q } (start N_Log_answers vs) H) : Met P w K mg base 2 (He.ga K "Log") "answers" sp := by
  obtain ⟨fd, F⟩ := T.fn 38 rfl
  have b : Binds K fd ["self"] [] := F.binds fun _ _ _ _ _ _ us hl => match us, hl with | [_], _ => rfl
  exact ⟨_, fd, _, T.cls 37 rfl, T.meth 54 rfl, F.ok sc_Log_answers len hb, b⟩
def sp_Log_answers (K : PySem.W.Frag) : Sp := mkSp (aLog K) (rL rN) (fun L y => y = ansL L)
theorem ln_Log_answers {K : PySem.W.Frag} : ∀ vs H Q E, sp_Log_answers K vs H Q E → vs.length = 1 := by
  rintro vs H Q E ⟨G, i, e, h, _⟩
  have h : (aLog K) i G vs := h
  obtain ⟨_, v, rfl, _⟩ := h; rfl
theorem ok_Log_answers (T : Tx K mg) : Met P w K mg base 2 (He.ga K "Log") "answers" (sp_Log_answers K) := mk_Log_answers T ln_Log_answers (fun cdv A outer s H vs Q E hr h => by
  have hu := hu_of hr
  have nd := sc_Log_answers.nd
  obtain ⟨G, i, e, ha, q⟩ := h
  refine ⟨_, pss_one (ps_ret (pe_lc (own := [("place", 1)]) (g := (gName 1)) rfl nd (pi_range1 rfl (T.free 75 rfl) (pa_cons (pe_callB (k_len (K := K) rfl) (by rfl) (T.free 74 rfl) (by decide +kernel) (pa_cons (k_fld (K := K) rfl (pv 0) rfl) pa_nil)) pa_nil)) (blkOk_by (by kernel_rfl)) (fun _ _ _ _ _ => pg_name (i := 1) nd rfl (by first | exact Or.inl rfl | exact Or.inr rfl)) (fun _ _ _ _ _ => (pts_one (pt_val (pe_m (ok_Log_is_answer T) hr (pv 0) (pa_cons (pv 1) pa_nil))))) (fun _ _ _ _ _ => pv 1))), ?_⟩
  obtain ⟨W, v, rfl, hv⟩ := ha
  refine s_ret (ev_val (ev_lcD (f := fun p => p) (p := isAns i) (ei_range1 (ev_N (ev_len (tx_events T (ev_var rfl hv)))) (by have := W.elen; omega)) (by rw [List.length_range]; have := W.elen; omega) fun x hx G2 u e2 r => ?_) ?_) e fun v G2 H2 n r => q v G2 H2 _ n r rfl
  · cases r
    refine ⟨_, tg_name, rfl, et_test ?_, fun _ => ev_var rfl rfl⟩
    exact ev_lmN W (ev_var rfl ((rLog K).ex e2 hv)) (ev_var rfl rfl)
  · exact List.map_id' _)
abbrev N_Log_answers_of : List Str := ["self", "judge", "place"]
theorem sc_Log_answers_of : FnScope N_Log_answers_of ["self", "judge"] (defScope s_Log_answers_of) := ⟨rfl, rfl, rfl, by decide +kernel, rfl, by decide +kernel, by decide +kernel⟩
theorem mk_Log_answers_of (T : Tx K mg) {sp : Sp} (len : ∀ vs H Q E, sp vs H Q E → vs.length = 2)
    (hb : ∀ (cdv : Value) (A : Around) (outer : List Env) (s : Shared) (H : Hp) (vs : List V) (Q : VK) (E : XK), Room 2 (A.deeper (envOfC "Log.answers_of" (defScope s_Log_answers_of) s.heap.objs.size (He.ma K (He.ga K "Log") "answers_of") cdv)) → sp vs H Q E →
      ∃ t, PSs (cxOf CX0 P w K mg base N_Log_answers_of "Log.answers_of" (defScope s_Log_answers_of) (He.ma K (He.ga K "Log") "answers_of") cdv A outer s H E).nox (defBody s_Log_answers_of) t ∧ t { nx := fun _ H' => Q .non H', rt := Q } (start N_Log_answers_of vs) H) : Met P w K mg base 3 (He.ga K "Log") "answers_of" sp := by
  obtain ⟨fd, F⟩ := T.fn 39 rfl
  have b : Binds K fd ["self", "judge"] [] := F.binds fun _ _ _ _ _ _ us hl => match us, hl with | [_, _], _ => rfl
  exact ⟨_, fd, _, T.cls 37 rfl, T.meth 55 rfl, F.ok sc_Log_answers_of len hb, b⟩
def sp_Log_answers_of (K : PySem.W.Frag) : Sp := mkSp (aLogJ K) (rL rN) (fun i y => y = (ansL i.1).filter fun p => decide (jgOf i.1 p = i.2))
theorem ln_Log_answers_of {K : PySem.W.Frag} : ∀ vs H Q E, sp_Log_answers_of K vs H Q E → vs.length = 2 := by
  rintro vs H Q E ⟨G, i, e, h, _⟩
  have h : (aLogJ K) i G vs := h
  obtain ⟨_, _, v, rfl, _⟩ := h; rfl
theorem ok_Log_answers_of (T : Tx K mg) : Met P w K mg base 3 (He.ga K "Log") "answers_of" (sp_Log_answers_of K) := mk_Log_answers_of T ln_Log_answers_of (fun cdv A outer s H vs Q E hr h => by
  have hu := hu_of hr
  have nd := sc_Log_answers_of.nd
  obtain ⟨G, i, e, ha, q⟩ := h
  refine ⟨_, pss_cons (ps_expr (pe_m (ok_Log_drift_of T) hr (pv 0) (pa_cons (pv 1) pa_nil)))
      (pss_one (ps_ret (pe_lc (own := [("place", 2)]) (g := (gName 2)) rfl nd (k_iList (K := K) rfl (pe_m00 (ok_Log_answers T) hr (pv 0))) (blkOk_by (by kernel_rfl)) (fun _ _ _ _ _ => pg_name (i := 2) nd rfl (by first | exact Or.inl rfl | exact Or.inr rfl)) (fun _ _ _ _ _ => (pts_one (pt_cmpR op_eq (pe_ix (k_ixT (K := K) rfl) (pe_ix (k_ixL (K := K) rfl) (k_fld (K := K) rfl (pv 0) rfl) (pv 2) (fun _ _ => rfl)) (pe_int) (fun _ _ => rfl)) (pv 1) (nomark _)))) (fun _ _ _ _ _ => pv 2)))), ?_⟩
  obtain ⟨L, j⟩ := i
  obtain ⟨W, hj, v, rfl, hv⟩ := ha
  dsimp only at W hv q hj
  refine q_dropP (ev_lmJ W hj (ev_var rfl hv) (ev_var rfl rfl)) e fun _ G2 H2 _ n2 _ _ => ?_
  have hv2 := (rLog K).ex n2.g hv
  refine s_ret (ev_val (ev_lcD (f := fun p => p) (p := fun p => decide (jgOf L p = j)) (ei_list (ev_lm0 W (ev_var rfl hv2))) (by have := W.elen; have := ansL_len (L := L); omega) fun x hx G3 u e3 r => ?_) (List.map_id' _)) n2.s fun v G4 H4 n r => q v G4 H4 _ (n2.trans n) r rfl
  cases r
  have hx2 := isAns_at (mem_ansL.mp hx)
  exact ⟨_, tg_name, rfl, et_test (ev_eqS (ev_judge (ev_ixL (tx_events T (ev_var rfl ((rLog K).ex e3 hv2))) (ev_N (ev_var rfl rfl)) hx2)) (ev_var rfl rfl)), fun _ => ev_var rfl rfl⟩)
abbrev N_Log_answer_at : List Str := ["self", "place"]
theorem sc_Log_answer_at : FnScope N_Log_answer_at ["self", "place"] (defScope s_Log_answer_at) := ⟨rfl, rfl, rfl, by decide +kernel, rfl, by decide +kernel, by decide +kernel⟩
theorem mk_Log_answer_at (T : Tx K mg) {sp : Sp} (len : ∀ vs H Q E, sp vs H Q E → vs.length = 2)
    (hb : ∀ (cdv : Value) (A : Around) (outer : List Env) (s : Shared) (H : Hp) (vs : List V) (Q : VK) (E : XK), Room 1 (A.deeper (envOfC "Log.answer_at" (defScope s_Log_answer_at) s.heap.objs.size (He.ma K (He.ga K "Log") "answer_at") cdv)) → sp vs H Q E →
      ∃ t, PSs (cxOf CX0 P w K mg base N_Log_answer_at "Log.answer_at" (defScope s_Log_answer_at) (He.ma K (He.ga K "Log") "answer_at") cdv A outer s H E).nox (defBody s_Log_answer_at) t ∧ t { nx := fun _ H' => Q .non H', rt := Q } (start N_Log_answer_at vs) H) : Met P w K mg base 2 (He.ga K "Log") "answer_at" sp := by
  obtain ⟨fd, F⟩ := T.fn 40 rfl
  have b : Binds K fd ["self", "place"] [] := F.binds fun _ _ _ _ _ _ us hl => match us, hl with | [_, _], _ => rfl
  exact ⟨_, fd, _, T.cls 37 rfl, T.meth 56 rfl, F.ok sc_Log_answer_at len hb, b⟩
def sp_Log_answer_at (K : PySem.W.Frag) : Sp := mkSp (aLogP K) (rE) (fun i y => y = .ans (jgOf i.1 i.2) (itOf i.1 i.2) (grOf i.1 i.2))
theorem ln_Log_answer_at {K : PySem.W.Frag} : ∀ vs H Q E, sp_Log_answer_at K vs H Q E → vs.length = 2 := by
  rintro vs H Q E ⟨G, i, e, h, _⟩
  have h : (aLogP K) i G vs := h
  obtain ⟨_, _, v, rfl, _⟩ := h; rfl
theorem ok_Log_answer_at (T : Tx K mg) : Met P w K mg base 2 (He.ga K "Log") "answer_at" (sp_Log_answer_at K) := mk_Log_answer_at T ln_Log_answer_at (fun cdv A outer s H vs Q E hr h => by
  have hu := hu_of hr
  have nd := sc_Log_answer_at.nd
  obtain ⟨G, i, e, ha, q⟩ := h
  refine ⟨_, pss_cons (ps_if (pt_not (pt_val (pe_m (ok_Log_is_answer T) hr (pv 0) (pa_cons (pv 1) pa_nil)))) (pss_one (ps_never)) (pss_nil))
      (pss_one (ps_ret (pe_ix (k_ixL (K := K) rfl) (k_fld (K := K) rfl (pv 0) rfl) (pv 1) (fun _ _ => rfl)))), ?_⟩
  obtain ⟨L, p⟩ := i
  obtain ⟨W, hp, v, rfl, hv⟩ := ha
  dsimp only at W hv q hp
  refine q_if1 (et_not (et_test (ev_val (ev_lmN W (ev_var rfl hv) (ev_var rfl rfl)) hp))) e (fun hb => by cases hb) fun _ G2 H2 n2 => ?_
  exact s_ret (ev_ixL (tx_events T (ev_var rfl ((rLog K).ex n2.g hv))) (ev_N (ev_var rfl rfl)) (isAns_at hp)) n2.s fun v G4 H4 n r => q v G4 H4 _ (n2.trans n) r rfl)
abbrev N_Log_judge_at : List Str := ["self", "place"]
theorem sc_Log_judge_at : FnScope N_Log_judge_at ["self", "place"] (defScope s_Log_judge_at) := ⟨rfl, rfl, rfl, by decide +kernel, rfl, by decide +kernel, by decide +kernel⟩
theorem mk_Log_judge_at (T : Tx K mg) {sp : Sp} (len : ∀ vs H Q E, sp vs H Q E → vs.length = 2)
    (hb : ∀ (cdv : Value) (A : Around) (outer : List Env) (s : Shared) (H : Hp) (vs : List V) (Q : VK) (E : XK), Room 2 (A.deeper (envOfC "Log.judge_at" (defScope s_Log_judge_at) s.heap.objs.size (He.ma K (He.ga K "Log") "judge_at") cdv)) → sp vs H Q E →
      ∃ t, PSs (cxOf CX0 P w K mg base N_Log_judge_at "Log.judge_at" (defScope s_Log_judge_at) (He.ma K (He.ga K "Log") "judge_at") cdv A outer s H E).nox (defBody s_Log_judge_at) t ∧ t { nx := fun _ H' => Q .non H', rt := Q } (start N_Log_judge_at vs) H) : Met P w K mg base 3 (He.ga K "Log") "judge_at" sp := by
  obtain ⟨fd, F⟩ := T.fn 41 rfl
  have b : Binds K fd ["self", "place"] [] := F.binds fun _ _ _ _ _ _ us hl => match us, hl with | [_, _], _ => rfl
  exact ⟨_, fd, _, T.cls 37 rfl, T.meth 57 rfl, F.ok sc_Log_judge_at len hb, b⟩
def sp_Log_judge_at (K : PySem.W.Frag) : Sp := mkSp (aLogP K) (rS) (fun i y => y = jgOf i.1 i.2)
theorem ln_Log_judge_at {K : PySem.W.Frag} : ∀ vs H Q E, sp_Log_judge_at K vs H Q E → vs.length = 2 := by
  rintro vs H Q E ⟨G, i, e, h, _⟩
  have h : (aLogP K) i G vs := h
  obtain ⟨_, _, v, rfl, _⟩ := h; rfl
theorem ok_Log_judge_at (T : Tx K mg) : Met P w K mg base 3 (He.ga K "Log") "judge_at" (sp_Log_judge_at K) := mk_Log_judge_at T ln_Log_judge_at (fun cdv A outer s H vs Q E hr h => by
  have hu := hu_of hr
  have nd := sc_Log_judge_at.nd
  obtain ⟨G, i, e, ha, q⟩ := h
  refine ⟨_, pss_one (ps_ret (pe_ix (k_ixT (K := K) rfl) (pe_m (ok_Log_answer_at T) hr (pv 0) (pa_cons (pv 1) pa_nil)) (pe_int) (fun _ _ => rfl))), ?_⟩
  obtain ⟨L, p⟩ := i
  obtain ⟨W, hp, v, rfl, hv⟩ := ha
  dsimp only at W hv q hp
  exact s_ret (ev_judge (ev_lmP W hp (ev_var rfl hv) (ev_var rfl rfl))) e fun v G4 H4 n r => q v G4 H4 _ n r rfl)
abbrev N_Log_item_at : List Str := ["self", "place"]
theorem sc_Log_item_at : FnScope N_Log_item_at ["self", "place"] (defScope s_Log_item_at) := ⟨rfl, rfl, rfl, by decide +kernel, rfl, by decide +kernel, by decide +kernel⟩
theorem mk_Log_item_at (T : Tx K mg) {sp : Sp} (len : ∀ vs H Q E, sp vs H Q E → vs.length = 2)
    (hb : ∀ (cdv : Value) (A : Around) (outer : List Env) (s : Shared) (H : Hp) (vs : List V) (Q : VK) (E : XK), Room 2 (A.deeper (envOfC "Log.item_at" (defScope s_Log_item_at) s.heap.objs.size (He.ma K (He.ga K "Log") "item_at") cdv)) → sp vs H Q E →
      ∃ t, PSs (cxOf CX0 P w K mg base N_Log_item_at "Log.item_at" (defScope s_Log_item_at) (He.ma K (He.ga K "Log") "item_at") cdv A outer s H E).nox (defBody s_Log_item_at) t ∧ t { nx := fun _ H' => Q .non H', rt := Q } (start N_Log_item_at vs) H) : Met P w K mg base 3 (He.ga K "Log") "item_at" sp := by
  obtain ⟨fd, F⟩ := T.fn 42 rfl
  have b : Binds K fd ["self", "place"] [] := F.binds fun _ _ _ _ _ _ us hl => match us, hl with | [_, _], _ => rfl
  exact ⟨_, fd, _, T.cls 37 rfl, T.meth 58 rfl, F.ok sc_Log_item_at len hb, b⟩
def sp_Log_item_at (K : PySem.W.Frag) : Sp := mkSp (aLogP K) (rS) (fun i y => y = itOf i.1 i.2)
theorem ln_Log_item_at {K : PySem.W.Frag} : ∀ vs H Q E, sp_Log_item_at K vs H Q E → vs.length = 2 := by
  rintro vs H Q E ⟨G, i, e, h, _⟩
  have h : (aLogP K) i G vs := h
  obtain ⟨_, _, v, rfl, _⟩ := h; rfl
theorem ok_Log_item_at (T : Tx K mg) : Met P w K mg base 3 (He.ga K "Log") "item_at" (sp_Log_item_at K) := mk_Log_item_at T ln_Log_item_at (fun cdv A outer s H vs Q E hr h => by
  have hu := hu_of hr
  have nd := sc_Log_item_at.nd
  obtain ⟨G, i, e, ha, q⟩ := h
  refine ⟨_, pss_one (ps_ret (pe_ix (k_ixT (K := K) rfl) (pe_m (ok_Log_answer_at T) hr (pv 0) (pa_cons (pv 1) pa_nil)) (pe_int) (fun _ _ => rfl))), ?_⟩
  obtain ⟨L, p⟩ := i
  obtain ⟨W, hp, v, rfl, hv⟩ := ha
  dsimp only at W hv q hp
  exact s_ret (ev_item (ev_lmP W hp (ev_var rfl hv) (ev_var rfl rfl))) e fun v G4 H4 n r => q v G4 H4 _ n r rfl)
abbrev N_Log_grade_at : List Str := ["self", "place"]
theorem sc_Log_grade_at : FnScope N_Log_grade_at ["self", "place"] (defScope s_Log_grade_at) := ⟨rfl, rfl, rfl, by decide +kernel, rfl, by decide +kernel, by decide +kernel⟩
theorem mk_Log_grade_at (T : Tx K mg) {sp : Sp} (len : ∀ vs H Q E, sp vs H Q E → vs.length = 2)
    (hb : ∀ (cdv : Value) (A : Around) (outer : List Env) (s : Shared) (H : Hp) (vs : List V) (Q : VK) (E : XK), Room 2 (A.deeper (envOfC "Log.grade_at" (defScope s_Log_grade_at) s.heap.objs.size (He.ma K (He.ga K "Log") "grade_at") cdv)) → sp vs H Q E →
      ∃ t, PSs (cxOf CX0 P w K mg base N_Log_grade_at "Log.grade_at" (defScope s_Log_grade_at) (He.ma K (He.ga K "Log") "grade_at") cdv A outer s H E).nox (defBody s_Log_grade_at) t ∧ t { nx := fun _ H' => Q .non H', rt := Q } (start N_Log_grade_at vs) H) : Met P w K mg base 3 (He.ga K "Log") "grade_at" sp := by
  obtain ⟨fd, F⟩ := T.fn 43 rfl
  have b : Binds K fd ["self", "place"] [] := F.binds fun _ _ _ _ _ _ us hl => match us, hl with | [_, _], _ => rfl
  exact ⟨_, fd, _, T.cls 37 rfl, T.meth 59 rfl, F.ok sc_Log_grade_at len hb, b⟩
def sp_Log_grade_at (K : PySem.W.Frag) : Sp := mkSp (aLogP K) (FW.rI) (fun i y => y = grOf i.1 i.2)
theorem ln_Log_grade_at {K : PySem.W.Frag} : ∀ vs H Q E, sp_Log_grade_at K vs H Q E → vs.length = 2 := by
  rintro vs H Q E ⟨G, i, e, h, _⟩
  have h : (aLogP K) i G vs := h
  obtain ⟨_, _, v, rfl, _⟩ := h; rfl
theorem ok_Log_grade_at (T : Tx K mg) : Met P w K mg base 3 (He.ga K "Log") "grade_at" (sp_Log_grade_at K) := mk_Log_grade_at T ln_Log_grade_at (fun cdv A outer s H vs Q E hr h => by
  have hu := hu_of hr
  have nd := sc_Log_grade_at.nd
  obtain ⟨G, i, e, ha, q⟩ := h
  refine ⟨_, pss_one (ps_ret (pe_ix (k_ixT (K := K) rfl) (pe_m (ok_Log_answer_at T) hr (pv 0) (pa_cons (pv 1) pa_nil)) (pe_int) (fun _ _ => rfl))), ?_⟩
  obtain ⟨L, p⟩ := i
  obtain ⟨W, hp, v, rfl, hv⟩ := ha
  dsimp only at W hv q hp
  exact s_ret (ev_grade (ev_lmP W hp (ev_var rfl hv) (ev_var rfl rfl))) e fun v G4 H4 n r => q v G4 H4 _ n r rfl)
end
end FW
/-! Log: stretches. -/
namespace FW
open PySem PySem.Spec PyProof.Rows L2 Hd
theorem strOk_of {x : Str} (h : NameOk x) : PyData.strOk x = true := by
  unfold PyData.strOk
  rw [← Array.all_toList, List.all_eq_true]
  intro c hc
  have h1 := h.2.2 c hc
  have : ∀ c ∈ lettersCps, decide (c < 0x110000) = true := by decide
  exact this c h1
def evD : RB.Ev Str → PyData
  | .ans j i g => .tuple [.str "answer", .str j, .str i, .int g]
  | .res j => .tuple [.str "reset", .str j]
theorem ev_dp {K : PySem.W.Frag} {G H : Hp} {v : V} {x : RB.Ev Str} (e : Ex G H) (h : rE.is G v x) : Dp K H v (evD x) := by
  obtain ⟨a, rfl, ha⟩ := h
  cases x with
  | ans j i g => exact .tup (SqT.of (e a _ ha)) (.cons (.str _) (.cons (.str _) (.cons (.str _) (.cons (.int _) .nil))))
  | res j => exact .tup (SqT.of (e a _ ha)) (.cons (.str _) (.cons (.str _) .nil))
theorem shaped_res {j : Str} (h : NameOk j) : SeqAt.shaped (.tuple [.str "reset", .str j]) = true := by
  show (((PyData.strOk "reset" && (PyData.strOk j && true))) && _) = true
  rw [strOk_of h, show PyData.strOk "reset" = true by decide +kernel]
  rfl
def EvName : RB.Ev Str → Prop
  | .ans j i _ => NameOk j ∧ NameOk i
  | .res j => NameOk j
theorem shaped_ev {x : RB.Ev Str} (h : EvName x) : SeqAt.shaped (evD x) = true := by
  cases x with
  | ans j i g =>
    show (((PyData.strOk "answer" && (PyData.strOk j && (PyData.strOk i && (true && true))))) && _) = true
    rw [strOk_of h.1, strOk_of h.2, show PyData.strOk "answer" = true by decide +kernel]
    rfl
  | res j => exact shaped_res h
theorem WfL.evName {L : Log} (W : WfL L) {x : RB.Ev Str} (h : x ∈ L.events) : EvName x := by
  have := W.eok x h
  have jn : ∀ j ∈ L.judges.map (·.1), NameOk j := fun j hj => by
    obtain ⟨z, hz, rfl⟩ := List.mem_map.mp hj
    exact W.jname z hz
  cases x with
  | ans j i g => exact ⟨jn _ this.1, W.iname _ this.2.1⟩
  | res j => exact jn _ this
def isRes (j : Str) : RB.Ev Str → Bool
  | .ans _ _ _ => false
  | .res k => decide (k = j)
theorem eqv_res {x : RB.Ev Str} {j : Str} : PyData.eqv (evD x) (.tuple [.str "reset", .str j]) = isRes j x := by
  cases x with
  | ans k i g =>
    show (((("answer" : Str) == ("reset" : Str)) && (((k : Str) == j) && false))) = false
    rw [show ((("answer" : Str) == ("reset" : Str))) = false by decide +kernel]
    rfl
  | res k =>
    show (((("reset" : Str) == ("reset" : Str)) && ((k == j) && true))) = decide (k = j)
    rw [show ((("reset" : Str) == ("reset" : Str))) = true by decide +kernel, Bool.true_and, Bool.and_true]
    by_cases h : k = j
    · rw [decide_eq_true h]; exact beq_iff_eq.mpr h
    · rw [decide_eq_false h]; exact beq_eq_false_iff_ne.mpr h
theorem isRes_iff {x : RB.Ev Str} {j : Str} : isRes j x = true ↔ x = .res j := by
  cases x with
  | ans k i g => constructor <;> (intro h; cases h)
  | res k => exact ⟨fun h => by rw [of_decide_eq_true h], fun h => by cases h; exact decide_eq_true rfl⟩
/-- the answers of j in one stretch with the place p -/
def InSt (L : Log) (j : Str) (p at_ : Nat) : Prop := ∀ r, L.events[r]? = some (.res j) → (r < p → r < at_) ∧ (p ≤ r → at_ < r)
theorem inSt_same {L : Log} {j : Str} {p a : Nat} (hp : RB.AnsOf L j p) (ha : RB.AnsOf L j a) : InSt L j p a ↔ RB.Same L j p a := by
  obtain ⟨i, g, hp⟩ := hp
  obtain ⟨i', g', ha⟩ := ha
  constructor
  · intro h
    constructor
    · intro r h1 h2 e
      have := (h r e).2 (by omega)
      omega
    · intro r h1 h2 e
      have := (h r e).1 (by omega)
      omega
  · intro h r e
    have n1 : r ≠ p := fun z => by subst z; rw [hp] at e; cases e
    have n2 : r ≠ a := fun z => by subst z; rw [ha] at e; cases e
    constructor
    · intro h1
      rcases Nat.lt_or_ge r a with z | z
      · exact z
      · exact absurd e (h.2 r (by omega) h1)
    · intro h1
      rcases Nat.lt_or_ge a r with z | z
      · exact z
      · exact absurd e (h.1 r (by omega) (by omega))
abbrev aLogJN (K : PySem.W.Frag) : Log × Str × Nat → Hp → List V → Prop := fun i G vs => WfL i.1 ∧ i.2.1 ∈ i.1.judges.map (·.1) ∧ ∃ v, vs = [v, .str i.2.1, .int (i.2.2 : Int)] ∧ (rLog K).is G v i.1
abbrev aLogJP (K : PySem.W.Frag) : Log × Str × Nat → Hp → List V → Prop := fun i G vs => WfL i.1 ∧ (i.2.1 ∈ i.1.judges.map (·.1) ∧ i.2.2 ≤ i.1.events.length) ∧ ∃ v, vs = [v, .str i.2.1, .int (i.2.2 : Int)] ∧ (rLog K).is G v i.1
section
variable {P : Program} {w : World} {K : PySem.W.Frag} {mg : Str → Option Value} {base : Heap}

abbrev N_Log_span_at : List Str := ["self", "judge", "place", "resets", "first", "at", "event"]
theorem sc_Log_span_at : FnScope N_Log_span_at ["self", "judge", "place"] (defScope s_Log_span_at) := ⟨rfl, rfl, rfl, by decide +kernel, rfl, by decide +kernel, by decide +kernel⟩
theorem mk_Log_span_at (T : Tx K mg) {sp : Sp} (len : ∀ vs H Q E, sp vs H Q E → vs.length = 3)
    (hb : ∀ (cdv : Value) (A : Around) (outer : List Env) (s : Shared) (H : Hp) (vs : List V) (Q : VK) (E : XK), Room 0 (A.deeper (envOfC "Log.span_at" (defScope s_Log_span_at) s.heap.objs.size (He.ma K (He.ga K "Log") "span_at") cdv)) → sp vs H Q E →
      ∃ t, PSs (cxOf CX0 P w K mg base N_Log_span_at "Log.span_at" (defScope s_Log_span_at) (He.ma K (He.ga K "Log") "span_at") cdv A outer s H E).nox (defBody s_Log_span_at) t ∧ t { nx := fun _ H' => Q .non H', rt := Q } (start N_Log_span_at vs) H) : Met P w K mg base 1 (He.ga K "Log") "span_at" sp := by
  obtain ⟨fd, F⟩ := T.fn 44 rfl
  have b : Binds K fd ["self", "judge", "place"] [] := F.binds fun _ _ _ _ _ _ us hl => match us, hl with | [_, _, _], _ => rfl
  exact ⟨_, fd, _, T.cls 37 rfl, T.meth 60 rfl, F.ok sc_Log_span_at len hb, b⟩
def sp_Log_span_at (K : PySem.W.Frag) : Sp := mkSp (aLogJN K) (rT2 rN rN) (fun i y => ∀ at_, (y.1 ≤ at_ ∧ at_ < y.2) ↔ (at_ < i.1.events.length ∧ InSt i.1 i.2.1 i.2.2 at_))
theorem ln_Log_span_at {K : PySem.W.Frag} : ∀ vs H Q E, sp_Log_span_at K vs H Q E → vs.length = 3 := by
  rintro vs H Q E ⟨G, i, e, h, _⟩
  have h : (aLogJN K) i G vs := h
  obtain ⟨_, _, v, rfl, _⟩ := h; rfl
theorem ok_Log_span_at (T : Tx K mg) : Met P w K mg base 1 (He.ga K "Log") "span_at" (sp_Log_span_at K) := mk_Log_span_at T ln_Log_span_at (fun cdv A outer s H vs Q E hr h => by
  have hu := hu_of hr
  have nd := sc_Log_span_at.nd
  obtain ⟨G, i, e, ha, q⟩ := h
  refine ⟨_, pss_cons (ps_setLc (i := 3) (own := [("at", 5), ("event", 6)]) (g := (gTup K 2 (gCons (gName 5) (gCons (gName 6) gNil)))) rfl nd rfl rfl (sw_true rfl rfl rfl (by decide +kernel)) (pi_enum (by rfl) (T.free 84 rfl) (pa_cons (k_fld (K := K) rfl (pv 0) rfl) pa_nil)) (blkOk_by (by kernel_rfl)) (fun _ _ _ _ _ => pg_tup rfl (pgs_cons (pg_name (i := 5) nd rfl (by first | exact Or.inl rfl | exact Or.inr rfl)) (pgs_cons (pg_name (i := 6) nd rfl (by first | exact Or.inl rfl | exact Or.inr rfl)) pgs_nil))) (fun _ _ _ _ _ => (pts_one (pt_cmpR (k_eqD (K := K) rfl hr.units) (pv 6) (pe_tup (pa_cons (pe_gs (T.str 92 rfl)) (pa_cons (pv 1) pa_nil))) (nomark _)))) (fun _ _ _ _ _ => pv 5))
      (pss_cons (ps_set (i := 4) nd rfl (Or.inl rfl) (pe_maxD hr (pe_lc (own := [("at", 5)]) (g := (gName 5)) rfl nd (k_iList (K := K) rfl (pv 3)) (blkOk_by (by kernel_rfl)) (fun _ _ _ _ _ => pg_name (i := 5) nd rfl (by first | exact Or.inl rfl | exact Or.inr rfl)) (fun _ _ _ _ _ => (pts_one (pt_cmpR op_lt (pv 5) (pv 2) (nomark _)))) (fun _ _ _ _ _ => pe_op op_add (pv 5) (pe_int))) (pe_int) (T.free 76 rfl)))
      (pss_one (ps_ret (pe_tup (pa_cons (pv 4) (pa_cons (pe_minD hr (pe_lc (own := [("at", 5)]) (g := (gName 5)) rfl nd (k_iList (K := K) rfl (pv 3)) (blkOk_by (by kernel_rfl)) (fun _ _ _ _ _ => pg_name (i := 5) nd rfl (by first | exact Or.inl rfl | exact Or.inr rfl)) (fun _ _ _ _ _ => (pts_one (pt_cmpR op_ge (pv 5) (pv 2) (nomark _)))) (fun _ _ _ _ _ => pv 5)) (pe_callB (k_len (K := K) rfl) (by rfl) (T.free 74 rfl) (by decide +kernel) (pa_cons (k_fld (K := K) rfl (pv 0) rfl) pa_nil)) (T.free 77 rfl)) pa_nil)))))), ?_⟩
  obtain ⟨L, j, p⟩ := i
  dsimp only [aLogJN, aLogJP] at ha
  obtain ⟨W, hj, v, rfl, hv⟩ := ha
  dsimp only at W hv q hj
  have hl := W.elen
  have hjn : NameOk j := by
    obtain ⟨z, hz, rfl⟩ := List.mem_map.mp hj
    exact W.jname z hz
  refine q_asg (R := rL rN) (ev_lcD (f := fun z => z.1) (p := fun z => isRes j z.2) (ei_enum (tx_events T (ev_var rfl hv))) (by rw [enum_len]; omega) fun x hx G2 u e2 r => ?_) e fun u1 G1 H1 n1 r1 => ?_
  · obtain ⟨t, v1, v2, rfl, ht, h1, h2⟩ := r
    refine ⟨_, tg_tup2 ht tg_name tg_name, rfl, et_test ?_, fun _ => ev_var rfl h1⟩
    refine ev_op (ev_var rfl h2) (ev_tup2D (R := rS) (S := rS) (x := "reset") (y := j) ev_str (ev_var rfl rfl)) fun G3 v3 x3 w3 y3 e3 r3 p3 r4 p4 H3 e4 Q3 q3 => ?_
    subst p3 p4
    obtain ⟨a, v5, v6, rfl, h4, h5, h6⟩ := r4
    cases h5; cases h6
    have hm : x.2 ∈ L.events := by
      obtain ⟨k, hk⟩ := List.mem_iff_getElem?.mp hx
      rw [enum_get] at hk
      obtain ⟨z, hz, e5⟩ := Option.map_eq_some_iff.mp hk
      subst e5
      exact List.mem_of_getElem? hz
    refine ⟨_, _, ev_dp e4 r3, .tup (SqT.of (e4 a _ h4)) (.cons (.str _) (.cons (.str _) .nil)), shaped_ev (W.evName hm), shaped_res hjn, q3 _ G3 H3 _ (Nxt.refl e4) rfl ?_⟩
    exact eqv_res
  have memR : ∀ r, r ∈ (((enum L.events).filter fun z => isRes j z.2).map fun z => z.1) ↔ L.events[r]? = some (.res j) := fun r => by
    rw [List.mem_map]
    constructor
    · rintro ⟨z, hz, rfl⟩
      obtain ⟨h1, h2⟩ := List.mem_filter.mp hz
      obtain ⟨k, hk⟩ := List.mem_iff_getElem?.mp h1
      rw [enum_get] at hk
      obtain ⟨y, hy, e5⟩ := Option.map_eq_some_iff.mp hk
      subst e5
      have h3 : y = .res j := isRes_iff.mp h2
      show L.events[k]? = _
      rw [hy, h3]
    · intro h
      refine ⟨(r, .res j), List.mem_filter.mpr ⟨List.mem_of_getElem? (i := r) (by rw [enum_get, h]; rfl), isRes_iff.mpr rfl⟩, rfl⟩
  generalize hR : (((enum L.events).filter fun z => isRes j z.2).map fun z => z.1) = R1 at memR r1
  have lenR : R1.length ≤ 24 := by
    rw [← hR, List.length_map]
    exact Nat.le_trans (List.length_filter_le _ _) (by rw [enum_len]; exact hl)
  refine q_asgP (R := rN) (PA := fun f => ∀ at_, f ≤ at_ ↔ ∀ r, L.events[r]? = some (.res j) → r < p → r < at_) (ev_maxD (P := fun ys => ys = (R1.filter fun r => decide (r < p)).map fun r => r + 1) (U := rN) (PD := fun d => d = 0) (ev_lcD (f := fun r => r + 1) (p := fun r => decide (r < p)) (ei_list (ev_var rfl r1)) (by omega) fun x hx G2 u e2 r => ?_) (ev_c rfl) (fun d h1 h2 => ?_) (fun ns m h1 h2 h3 => ⟨m, fun _ => rfl, ?_⟩)) n1.s fun u2 G2 H2 f n2 r2 hf => ?_
  · cases r
    refine ⟨_, tg_name, rfl, et_test (ev_val (ev_cmpI (r := fun i j => decide (i < j)) (ev_N (ev_var rfl rfl)) (ev_N (ev_var rfl rfl))) (decide_eq_decide.mpr (by omega))), fun _ => ev_toN (ev_addI (ev_N (ev_var rfl rfl)) ev_int) rfl⟩
  · subst h1
    intro at_
    refine ⟨fun _ r h4 h5 => ?_, fun _ => Nat.zero_le _⟩
    have : r + 1 ∈ ((R1.filter fun r => decide (r < p)).map fun r => r + 1) := List.mem_map.mpr ⟨r, List.mem_filter.mpr ⟨(memR r).mpr h4, decide_eq_true h5⟩, rfl⟩
    rw [← h2] at this
    cases this
  · subst h1
    intro at_
    constructor
    · intro h4 r h5 h6
      have := h3 (r + 1) (List.mem_map.mpr ⟨r, List.mem_filter.mpr ⟨(memR r).mpr h5, decide_eq_true h6⟩, rfl⟩)
      omega
    · intro h4
      obtain ⟨r, h5, rfl⟩ := List.mem_map.mp h2
      obtain ⟨h6, h7⟩ := List.mem_filter.mp h5
      have := h4 r ((memR r).mp h6) (of_decide_eq_true h7)
      omega
  have hv2 := (rLog K).ex (n1.g.trans n2.g) hv
  refine s_retP (ev_tup2 (ev_var rfl r2) (ev_minD (P := fun ys => ys = (R1.filter fun r => decide (p ≤ r)).map fun r => r) (U := rN) (PD := fun d => d = L.events.length) (PZ := fun l => ∀ at_, at_ < l ↔ at_ < L.events.length ∧ ∀ r, L.events[r]? = some (.res j) → p ≤ r → at_ < r) (ev_lcD (f := fun r => r) (p := fun r => decide (p ≤ r)) (ei_list (ev_var rfl ((rL rN).ex n2.g r1))) (by omega) fun x hx G3 u e3 r => ?_) (ev_len (tx_events T (ev_var rfl hv2))) (fun d h1 h2 => ?_) (fun ns m h1 h2 h3 => ⟨m, fun _ => rfl, ?_⟩))) n2.s fun w G4 H4 x n r hx => q w G4 H4 x ((n1.trans n2).trans n) r fun at_ => ?_
  · cases r
    exact ⟨_, tg_name, rfl, et_test (ev_val (ev_cmpI (r := fun i j => decide (j ≤ i)) (ev_N (ev_var rfl rfl)) (ev_N (ev_var rfl rfl))) (decide_eq_decide.mpr (by omega))), fun _ => ev_var rfl rfl⟩
  · subst h1
    intro at_
    refine ⟨fun h3 => ⟨h3, fun r h4 h5 => ?_⟩, fun h => h.1⟩
    have : r ∈ ((R1.filter fun r => decide (p ≤ r)).map fun r => r) := List.mem_map.mpr ⟨r, List.mem_filter.mpr ⟨(memR r).mpr h4, decide_eq_true h5⟩, rfl⟩
    rw [← h2] at this
    cases this
  · subst h1
    intro at_
    obtain ⟨r0, h5, h5e⟩ := List.mem_map.mp h2
    have h5e : r0 = m := h5e
    subst h5e
    obtain ⟨h6, h7⟩ := List.mem_filter.mp h5
    have h8 := (memR r0).mp h6
    constructor
    · intro h4
      refine ⟨Nat.lt_trans h4 (List.getElem?_eq_some_iff.mp h8).1, fun r h9 h10 => ?_⟩
      have := h3 r (List.mem_map.mpr ⟨r, List.mem_filter.mpr ⟨(memR r).mpr h9, decide_eq_true h10⟩, rfl⟩)
      omega
    · rintro ⟨_, h4⟩
      exact h4 r0 h8 (of_decide_eq_true h7)
  · obtain ⟨h1, h2⟩ := hx
    rw [h1, hf, h2]
    constructor
    · rintro ⟨a, b, c⟩
      exact ⟨b, fun r h => ⟨a r h, c r h⟩⟩
    · rintro ⟨b, c⟩
      exact ⟨fun r h => (c r h).1, b, fun r h => (c r h).2⟩)
abbrev N_Log_stretch_at : List Str := ["self", "judge", "place", "answers", "first", "last", "at"]
theorem sc_Log_stretch_at : FnScope N_Log_stretch_at ["self", "judge", "place"] (defScope s_Log_stretch_at) := ⟨rfl, rfl, rfl, by decide +kernel, rfl, by decide +kernel, by decide +kernel⟩
theorem mk_Log_stretch_at (T : Tx K mg) {sp : Sp} (len : ∀ vs H Q E, sp vs H Q E → vs.length = 3)
    (hb : ∀ (cdv : Value) (A : Around) (outer : List Env) (s : Shared) (H : Hp) (vs : List V) (Q : VK) (E : XK), Room 3 (A.deeper (envOfC "Log.stretch_at" (defScope s_Log_stretch_at) s.heap.objs.size (He.ma K (He.ga K "Log") "stretch_at") cdv)) → sp vs H Q E →
      ∃ t, PSs (cxOf CX0 P w K mg base N_Log_stretch_at "Log.stretch_at" (defScope s_Log_stretch_at) (He.ma K (He.ga K "Log") "stretch_at") cdv A outer s H E).nox (defBody s_Log_stretch_at) t ∧ t { nx := fun _ H' => Q .non H', rt := Q } (start N_Log_stretch_at vs) H) : Met P w K mg base 4 (He.ga K "Log") "stretch_at" sp := by
  obtain ⟨fd, F⟩ := T.fn 45 rfl
  have b : Binds K fd ["self", "judge", "place"] [] := F.binds fun _ _ _ _ _ _ us hl => match us, hl with | [_, _, _], _ => rfl
  exact ⟨_, fd, _, T.cls 37 rfl, T.meth 61 rfl, F.ok sc_Log_stretch_at len hb, b⟩
def sp_Log_stretch_at (K : PySem.W.Frag) : Sp := mkSp (aLogJP K) (rL rN) (fun i y => y.Pairwise (· < ·) ∧ y.length ≤ 24 ∧ ∀ at_, at_ ∈ y ↔ RB.AnsOf i.1 i.2.1 at_ ∧ InSt i.1 i.2.1 i.2.2 at_)
theorem ln_Log_stretch_at {K : PySem.W.Frag} : ∀ vs H Q E, sp_Log_stretch_at K vs H Q E → vs.length = 3 := by
  rintro vs H Q E ⟨G, i, e, h, _⟩
  have h : (aLogJP K) i G vs := h
  obtain ⟨_, _, v, rfl, _⟩ := h; rfl
theorem ok_Log_stretch_at (T : Tx K mg) : Met P w K mg base 4 (He.ga K "Log") "stretch_at" (sp_Log_stretch_at K) := mk_Log_stretch_at T ln_Log_stretch_at (fun cdv A outer s H vs Q E hr h => by
  have hu := hu_of hr
  have nd := sc_Log_stretch_at.nd
  obtain ⟨G, i, e, ha, q⟩ := h
  refine ⟨_, pss_cons (ps_set (i := 3) nd rfl (Or.inl rfl) (pe_m (ok_Log_answers_of T) hr (pv 0) (pa_cons (pv 1) pa_nil)))
      (pss_cons (ps_if (pt_not (pt_chain op_le op_le (pe_int) (pv 2) (pe_callB (k_len (K := K) rfl) (by rfl) (T.free 74 rfl) (by decide +kernel) (pa_cons (k_fld (K := K) rfl (pv 0) rfl) pa_nil)))) (pss_one (ps_never)) (pss_nil))
      (pss_cons (ps_asg (pe_m (ok_Log_span_at T) hr (pv 0) (pa_cons (pv 1) (pa_cons (pv 2) pa_nil))) (pg_tup rfl (pgs_cons (pg_name (i := 4) nd rfl (Or.inr rfl)) (pgs_cons (pg_name (i := 5) nd rfl (Or.inr rfl)) pgs_nil))))
      (pss_one (ps_ret (pe_lc (own := [("at", 6)]) (g := (gName 6)) rfl nd (k_iList (K := K) rfl (pv 3)) (blkOk_by (by kernel_rfl)) (fun _ _ _ _ _ => pg_name (i := 6) nd rfl (by first | exact Or.inl rfl | exact Or.inr rfl)) (fun _ _ _ _ _ => (pts_one (pt_chain op_le op_lt (pv 4) (pv 6) (pv 5)))) (fun _ _ _ _ _ => pv 6)))))), ?_⟩
  obtain ⟨L, j, p⟩ := i
  dsimp only [aLogJN, aLogJP] at ha
  obtain ⟨W, ⟨hj, hp⟩, v, rfl, hv⟩ := ha
  dsimp only at W hv q hj hp
  have hl := W.elen
  have hal := ansL_len (L := L)
  refine q_asg (R := rL rN) (x := (ansL L).filter fun p => decide (jgOf L p = j)) (ev_lmJ W hj (ev_var rfl hv) (ev_var rfl rfl)) e fun u1 G1 H1 n1 r1 => ?_
  refine q_if1 (et_not (et_test (ev_val (ev_chainI (r := fun i j => decide (i ≤ j)) (r' := fun i j => decide (i ≤ j)) ev_int (ev_N (ev_var rfl rfl)) (ev_N (ev_len (tx_events T (ev_var rfl ((rLog K).ex n1.g hv)))))) (y := true) ?_))) n1.s (fun hb => by cases hb) fun _ G2 H2 n2 => ?_
  · rw [Bool.and_eq_true, decide_eq_true_eq, decide_eq_true_eq]
    omega
  have hv2 := (rLog K).ex (n1.g.trans n2.g) hv
  refine q_asgT (R := rT2 rN rN) (PA := fun y => ∀ at_, (y.1 ≤ at_ ∧ at_ < y.2) ↔ (at_ < L.events.length ∧ InSt L j p at_)) (ev_meth2 (log_ins) (ev_var rfl hv2) (ev_var (R := rS) rfl rfl) (ev_var (R := rN) rfl rfl) fun G3 v1 x1 w1 y1 u5 z1 e3 q1 p1 r2 p2 r3 p3 => ?_) n2.s fun v3 G3 H3 x n3 r3 p3 => ?_
  · subst p1 p2 p3
    cases r2; cases r3
    exact mkSp_use (args := aLogJN K) (x1, y1, z1) ⟨W, hj, v1, rfl, q1⟩
  obtain ⟨t, w1, w2, rfl, ht, h1, h2⟩ := r3
  refine ⟨_, tg_tup2 ht tg_name tg_name, ?_⟩
  have hfl : ((ansL L).filter fun p => decide (jgOf L p = j)).length ≤ (ansL L).length := List.length_filter_le _ _
  refine s_ret (ev_lcD (f := fun r => r) (p := fun at_ => decide (x.1 ≤ at_) && decide (at_ < x.2)) (ei_list (ev_var rfl ((rL rN).ex (n2.g.trans n3.g) r1))) (by omega) fun y hy G4 u e4 r => ?_) n3.s fun w G5 H5 n r => q w G5 H5 _ (((n1.trans n2).trans n3).trans n) r ?_
  · cases r
    refine ⟨_, tg_name, rfl, et_test (ev_val (ev_chainI (r := fun i j => decide (i ≤ j)) (r' := fun i j => decide (i < j)) (ev_N (ev_var rfl (rN.ex e4 h1))) (ev_N (ev_var rfl rfl)) (ev_N (ev_var rfl (rN.ex e4 h2)))) ?_), fun _ => ev_var rfl rfl⟩
    rw [decide_eq_decide.mpr (show ((x.1 : Int) ≤ (y : Int)) ↔ x.1 ≤ y by omega), decide_eq_decide.mpr (show ((y : Int) < (x.2 : Int)) ↔ y < x.2 by omega)]
  · refine ⟨?_, ?_, fun at_ => ?_⟩
    · rw [List.map_id']
      exact (ansL_pw.filter _).filter _
    · rw [List.map_id']
      have := List.length_filter_le (fun at_ => decide (x.1 ≤ at_) && decide (at_ < x.2)) ((ansL L).filter fun p => decide (jgOf L p = j))
      omega
    · rw [List.map_id', List.mem_filter, List.mem_filter, mem_ansL, decide_eq_true_eq, Bool.and_eq_true, decide_eq_true_eq, decide_eq_true_eq, ansOf_iff]
      constructor
      · rintro ⟨h1, h2⟩
        exact ⟨h1, ((p3 at_).mp h2).2⟩
      · rintro ⟨h1, h2⟩
        exact ⟨h1, (p3 at_).mpr ⟨isAns_lt h1.1, h2⟩⟩)
abbrev N_Log_stretch_of : List Str := ["self", "place"]
theorem sc_Log_stretch_of : FnScope N_Log_stretch_of ["self", "place"] (defScope s_Log_stretch_of) := ⟨rfl, rfl, rfl, by decide +kernel, rfl, by decide +kernel, by decide +kernel⟩
theorem mk_Log_stretch_of (T : Tx K mg) {sp : Sp} (len : ∀ vs H Q E, sp vs H Q E → vs.length = 2)
    (hb : ∀ (cdv : Value) (A : Around) (outer : List Env) (s : Shared) (H : Hp) (vs : List V) (Q : VK) (E : XK), Room 4 (A.deeper (envOfC "Log.stretch_of" (defScope s_Log_stretch_of) s.heap.objs.size (He.ma K (He.ga K "Log") "stretch_of") cdv)) → sp vs H Q E →
      ∃ t, PSs (cxOf CX0 P w K mg base N_Log_stretch_of "Log.stretch_of" (defScope s_Log_stretch_of) (He.ma K (He.ga K "Log") "stretch_of") cdv A outer s H E).nox (defBody s_Log_stretch_of) t ∧ t { nx := fun _ H' => Q .non H', rt := Q } (start N_Log_stretch_of vs) H) : Met P w K mg base 5 (He.ga K "Log") "stretch_of" sp := by
  obtain ⟨fd, F⟩ := T.fn 46 rfl
  have b : Binds K fd ["self", "place"] [] := F.binds fun _ _ _ _ _ _ us hl => match us, hl with | [_, _], _ => rfl
  exact ⟨_, fd, _, T.cls 37 rfl, T.meth 62 rfl, F.ok sc_Log_stretch_of len hb, b⟩
def sp_Log_stretch_of (K : PySem.W.Frag) : Sp := mkSp (aLogP K) (rL rN) (fun i y => y.Pairwise (· < ·) ∧ y.length ≤ 24 ∧ ∀ at_, at_ ∈ y ↔ RB.AnsOf i.1 (jgOf i.1 i.2) at_ ∧ RB.Same i.1 (jgOf i.1 i.2) i.2 at_)
theorem ln_Log_stretch_of {K : PySem.W.Frag} : ∀ vs H Q E, sp_Log_stretch_of K vs H Q E → vs.length = 2 := by
  rintro vs H Q E ⟨G, i, e, h, _⟩
  have h : (aLogP K) i G vs := h
  obtain ⟨_, _, v, rfl, _⟩ := h; rfl
theorem ok_Log_stretch_of (T : Tx K mg) : Met P w K mg base 5 (He.ga K "Log") "stretch_of" (sp_Log_stretch_of K) := mk_Log_stretch_of T ln_Log_stretch_of (fun cdv A outer s H vs Q E hr h => by
  have hu := hu_of hr
  have nd := sc_Log_stretch_of.nd
  obtain ⟨G, i, e, ha, q⟩ := h
  refine ⟨_, pss_one (ps_ret (pe_m (ok_Log_stretch_at T) hr (pv 0) (pa_cons (pe_m (ok_Log_judge_at T) hr (pv 0) (pa_cons (pv 1) pa_nil)) (pa_cons (pv 1) pa_nil)))), ?_⟩
  obtain ⟨L, p⟩ := i
  dsimp only [aLogP, aLogN] at ha
  obtain ⟨W, hp, v, rfl, hv⟩ := ha
  dsimp only at W hv q hp
  refine s_retP (R := rL rN) (PA := fun y => y.Pairwise (· < ·) ∧ y.length ≤ 24 ∧ ∀ at_, at_ ∈ y ↔ RB.AnsOf L (jgOf L p) at_ ∧ RB.Same L (jgOf L p) p at_) (ev_meth2 (log_ins) (ev_var rfl hv) (R := rLog K) (S := rS) (PB := fun y => y = jgOf L p) (ev_lmP W hp (ev_var rfl hv) (ev_var rfl rfl)) (ev_var (R := rN) rfl rfl) fun G3 v1 x1 w1 y1 u1 z1 e3 r1 p1 r2 p2 r3 p3 => ?_) e fun w G5 H5 x n r hx => q w G5 H5 _ n r hx
  subst p1 p2 p3
  cases r2; cases r3
  have hj := (W.ansj hp).1
  have ha : RB.AnsOf x1 (jgOf x1 z1) z1 := ansOf_iff.mpr ⟨hp, rfl⟩
  refine SpP.imp (mkSp_use (args := aLogJP K) (x1, jgOf x1 z1, z1) ⟨W, ⟨hj, Nat.le_of_lt (isAns_lt hp)⟩, v1, rfl, r1⟩) fun y hy => ⟨hy.1, hy.2.1, fun at_ => ?_⟩
  rw [hy.2.2]
  exact ⟨fun h => ⟨h.1, (inSt_same ha h.1).mp h.2⟩, fun h => ⟨h.1, (inSt_same ha h.1).mpr h.2⟩⟩)
end
end FW
/-! An object of ours that is read while it grows. -/
namespace FW
open PySem PySem.Spec PyProof.Rows L2 Hd
section
variable {κ α β γ : Type} [DecidableEq κ] {R : Rp α} {RK : Rp κ} {σ : L2.St} {Hs G H G2 H2 : Hp} {te ty tv : TE} {t : TT} {K : PySem.W.Frag} {D : Ends} {tu tw u : TS} {g : TG} {l : Addr} {o : HO}
theorem Own.told (own : Own Hs G H l o) (e : Ex G H) : Ex (upd G l o) H := e.put own.h
theorem nxt_untell (own : Own Hs G H l o) (n : Nxt (upd G l o) H G2 H2) : Nxt G H (del G2 l) H2 ∧ Own Hs (del G2 l) H2 l o := by
  refine ⟨⟨fun a u h => ?_, n.h, fun a u h => ?_, fun a u h => ?_⟩, own.s, del_same, n.h l o own.h⟩
  · have hne : a ≠ l := ne_of_none h own.g
    rw [del_ne hne]
    exact n.g a u (by rw [upd_ne hne]; exact h)
  · by_cases z : a = l
    · subst z; rw [del_same] at h; cases h
    · rw [del_ne z] at h; exact n.s a u h
  · by_cases z : a = l
    · subst z; rw [del_same] at h; cases h
    · rw [del_ne z] at h
      rcases n.f a u h with q | q
      · rw [upd_ne z] at q; exact .inl q
      · exact .inr q
theorem ev_neg {ta : TE} {i : Int} (h : EvD FW.rI ta σ G i) : EvD FW.rI (tUn (L2.rU fun i => V.int (-i)) ta) σ G (-i) := fun H e Q q => h H e _ fun v G2 H2 y n r p => by
  subst p; cases r
  exact ⟨_, rfl, q _ G2 H2 _ n rfl rfl⟩
/-! dict comprehensions, told more simply -/
section
variable {S : Rp β} {tt : TT} {tk : TE}
theorem ev_dcP {kf : κ → Key} {wi : TI} {vs : List Nat} {xs : List α} {ky : α → κ} {F : α → β → Prop} (inj : ∀ a b, kf a = kf b → a = b) (hkr : KeyR RK kf) (hi : EvI R wi σ G (fun ys => ys = xs)) (hl : xs.length ≤ 100000) (nd : (xs.map ky).Nodup)
    (hb : ∀ x, x ∈ xs → ∀ G2 v, Ex G G2 → R.is G2 v x → ∃ σ2, Tg g v (wipe σ vs) G2 σ2 ∧ wipe σ2 vs = wipe σ vs ∧ EvD RK tk σ2 G2 (ky x) ∧ EvP S tv σ2 G2 (F x)) :
    EvP (rD kf S) (tDc wi g tYes tk tv vs) σ G (fun ys => Pd (fun x y => y.1 = ky x ∧ F x y.2) xs ys) := (ev_dc (p := fun _ => true) (ky := ky) (F := F) inj hkr hi fun ys e => by
  subst e
  exact ⟨hl, nd, fun x hx G2 v e r => by
    obtain ⟨σ2, h1, h2, h3, h4⟩ := hb x hx G2 v e r
    exact ⟨σ2, h1, h2, et_yes, fun _ => ⟨h3, h4⟩⟩⟩).imp fun ys h => by
  obtain ⟨_, rfl, h⟩ := h
  rwa [List.filter_eq_self.mpr (fun _ _ => rfl)] at h
theorem pd_pairs {ky : α → κ} {f : α → β} : ∀ {xs : List α} {ys : List (κ × β)}, Pd (fun x y => y.1 = ky x ∧ y.2 = f x) xs ys → ys = xs.map fun x => (ky x, f x)
  | _, _, .nil => rfl
  | _, _, .cons a t => by
    rw [List.map_cons, pd_pairs t]
    congr 1
    exact Prod.ext a.1 a.2
theorem ev_dcM {kf : κ → Key} {wi : TI} {vs : List Nat} {xs : List α} {ky : α → κ} {f : α → β} (inj : ∀ a b, kf a = kf b → a = b) (hkr : KeyR RK kf) (hi : EvI R wi σ G (fun ys => ys = xs)) (hl : xs.length ≤ 100000) (nd : (xs.map ky).Nodup)
    (hb : ∀ x, x ∈ xs → ∀ G2 v, Ex G G2 → R.is G2 v x → ∃ σ2, Tg g v (wipe σ vs) G2 σ2 ∧ wipe σ2 vs = wipe σ vs ∧ EvD RK tk σ2 G2 (ky x) ∧ EvD S tv σ2 G2 (f x)) :
    EvD (rD kf S) (tDc wi g tYes tk tv vs) σ G (xs.map fun x => (ky x, f x)) := (ev_dcP (F := fun x y => y = f x) inj hkr hi hl nd hb).imp fun ys h => pd_pairs h
end
/-- what te gives at this heap -/
def AtP (R : Rp α) (te : TE) (σ : L2.St) (G H : Hp) (P : α → Prop) : Prop := ∀ Q : VK, (∀ v G2 H2 x, Nxt G H G2 H2 → R.is G2 v x → P x → Q v H2) → te σ H Q
theorem EvP.at {P : α → Prop} (h : EvP R te σ G P) (e : Ex G H) : AtP R te σ G H P := h H e
theorem AtP.own {P : α → Prop} (off : Off R) (own : Own Hs G H l o) (hd : isD o = true) (e : Ex G H) (h : EvP R te σ (upd G l o) P) : AtP R te σ G H P := fun Q q =>
  h H (own.told e) Q fun v G2 H2 x n r p => q v (del G2 l) H2 x (nxt_untell own n).1 (off (n.g l o upd_same) hd r) p
/-- a test that reads it -/
theorem s_ifO {b : Bool} (own : Own Hs G H l o) (h : EvT t σ (upd G l o) b) (e : Ex G H) (h1 : b = true → ∀ G2 H2, Nxt G H G2 H2 → Own Hs G2 H2 l o → tu D σ H2) (h2 : b = false → ∀ G2 H2, Nxt G H G2 H2 → Own Hs G2 H2 l o → tw D σ H2) : tIfS t tu tw D σ H :=
  h H (own.told e) _ fun G2 H2 n => by
  obtain ⟨n', own'⟩ := nxt_untell own n
  cases b with
  | true =>
    show tu D σ H2
    exact h1 rfl _ H2 n' own'
  | false =>
    show tw D σ H2
    exact h2 rfl _ H2 n' own'
/-- d[k] = v, v read off d -/
theorem s_dputA {us : List (Key × V)} {i : Nat} {kf : κ → Key} {x : κ} {PA : α → Prop} (hkr : KeyR RK kf) (own : Own Hs G H l (.dK us)) (hi : σ[i]? = some (some (.ref l))) (hv : AtP R tv σ G H PA) (hk : EvD RK ty σ G x) (hz : us.length < 100000)
    (k : ∀ v G2 H2 y, Nxt G H G2 H2 → R.is G2 v y → PA y → Own Hs G2 (upd H2 l (.dK (putK us (kf x) v))) l (.dK (putK us (kf x) v)) → D.nx σ (upd H2 l (.dK (putK us (kf x) v)))) :
    sDPut (tVar i) ty tv D σ H := hv _ fun v G2 H2 y n r p => ⟨.ref l, hi, hk.mono n.g H2 n.s _ fun w G3 H3 z n2 r2 p2 => by
  subst p2
  have own3 := (own.nxt n).nxt n2
  exact ⟨l, _, rfl, .inl ⟨us, kf z, own3.h, hkr _ _ _ r2, Nat.lt_of_lt_of_le hz (by decide), rfl⟩, k v G3 H3 y (n.trans n2) (R.ex n2.g r) p own3.set⟩⟩
theorem q_dputA {us : List (Key × V)} {i : Nat} {kf : κ → Key} {x : κ} {PA : α → Prop} (hkr : KeyR RK kf) (own : Own Hs G H l (.dK us)) (hi : σ[i]? = some (some (.ref l))) (hv : AtP R tv σ G H PA) (hk : EvD RK ty σ G x) (hz : us.length < 100000)
    (k : ∀ v G2 H2 y, Nxt G H G2 H2 → R.is G2 v y → PA y → Own Hs G2 (upd H2 l (.dK (putK us (kf x) v))) l (.dK (putK us (kf x) v)) → u D σ (upd H2 l (.dK (putK us (kf x) v)))) :
    tSeq (sDPut (tVar i) ty tv) u D σ H := s_dputA (D := { D with nx := u D }) hkr own hi hv hk hz k
/-- l += te -/
theorem s_ext {us : List V} {i : Nat} {PA : List α → Prop} (own : Own Hs G H l (.lst us)) (hi : σ[i]? = some (some (.ref l))) (h : EvP (rL R) te σ G PA) (e : Ex G H) (hz : ∀ x, PA x → us.length + x.length ≤ 100000)
    (k : ∀ vs G2 H2 x, Nxt G H G2 H2 → Pd (R.is G2) vs x → PA x → Own Hs G2 (upd H2 l (.lst (us ++ vs))) l (.lst (us ++ vs)) → D.nx (σ.set i (some (.ref l))) (upd H2 l (.lst (us ++ vs)))) : tAug i te rExt2 D σ H :=
  ⟨.ref l, hi, h H e _ fun v G2 H2 x n r p => by
    obtain ⟨b, vs, rfl, hb, pv⟩ := r
    refine ⟨l, b, us, vs, rfl, rfl, (own.nxt n).h, n.s b _ hb, ?_, k vs G2 H2 x n pv p (own.nxt n).set⟩
    rw [pd_len pv]
    exact Nat.le_trans (hz x p) (by decide)⟩
/-- the list, the dict as it now is, given back -/
theorem own_list {us : List V} {xs : List α} (own : Own Hs G H l (.lst us)) (p : Pd (R.is G) us xs) (e : Ex G H) (n : Nxt Hs Hs G H → Nxt Hs Hs (upd G l (.lst us)) H := fun n => n.tell own.s own.h own.g) : (rL R).is (upd G l (.lst us)) (.ref l) xs :=
  ⟨l, us, rfl, upd_same, pd_mono (fun _ _ => R.ex (Ex.new own.g)) p⟩
theorem own_dict {kf : κ → Key} {us : List (Key × V)} {xs : List (κ × α)} (own : Own Hs G H l (.dK us)) (p : Pd (Ent kf R G) us xs) : (rD kf R).is (upd G l (.dK us)) (.ref l) xs :=
  ⟨l, us, rfl, upd_same, pd_mono (fun _ _ h => ⟨h.1, R.ex (Ex.new own.g) h.2⟩) p⟩
theorem own_dictT {kf : κ → List Key} {us : List (List Key × V)} {xs : List (κ × α)} (own : Own Hs G H l (.dT us)) (p : Pd (Ent kf R G) us xs) : (rDT kf R).is (upd G l (.dT us)) (.ref l) xs :=
  ⟨l, us, rfl, upd_same, pd_mono (fun _ _ h => ⟨h.1, R.ex (Ex.new own.g) h.2⟩) p⟩
/-- return l -/
theorem s_retL {G0 H0 : Hp} {i : Nat} {us : List V} {xs : List α} (n : Nxt G0 H0 G H) (own : Own Hs G H l (.lst us)) (hs : Ex H0 Hs) (p : Pd (R.is G) us xs) (hi : σ[i]? = some (some (.ref l))) (k : ∀ v G2 H2, Nxt G0 H0 G2 H2 → (rL R).is G2 v xs → D.rt v H2) : tRet (tVar i) D σ H :=
  ⟨.ref l, hi, k _ _ H (n.tell (hs.free own.s) own.h own.g) (own_list own p n.s)⟩
theorem s_retK {G0 H0 : Hp} {i : Nat} {kf : κ → Key} {us : List (Key × V)} {xs : List (κ × α)} (n : Nxt G0 H0 G H) (own : Own Hs G H l (.dK us)) (hs : Ex H0 Hs) (p : Pd (Ent kf R G) us xs) (hi : σ[i]? = some (some (.ref l))) (k : ∀ v G2 H2, Nxt G0 H0 G2 H2 → (rD kf R).is G2 v xs → D.rt v H2) : tRet (tVar i) D σ H :=
  ⟨.ref l, hi, k _ _ H (n.tell (hs.free own.s) own.h own.g) (own_dict own p)⟩
end
end FW
/-! Log: stretches; links. -/
namespace FW
open PySem PySem.Spec PyProof.Rows L2 Hd
/-- what stretches gives -/
structure IsSts (L : Log) (j : Str) (yss : List (List Nat)) : Prop where
  each : ∀ s ∈ yss, s.Pairwise (· < ·) ∧ s.length ≤ 24 ∧ ∃ p, RB.AnsOf L j p ∧ ∀ at_, at_ ∈ s ↔ RB.AnsOf L j at_ ∧ RB.Same L j p at_
  all : ∀ p, RB.AnsOf L j p → ∃ s ∈ yss, p ∈ s
  len : yss.length ≤ 24
abbrev aLin (K : PySem.W.Frag) : Log × RB.Drift × List Nat → Hp → List V → Prop := fun i G vs => WfL i.1 ∧ ((∀ p ∈ i.2.2, isAns i.1 p = true) ∧ i.2.2.length ≤ 24 ∧ i.2.2.Nodup) ∧ ∃ v w, vs = [v, .str (dStr i.2.1), w] ∧ (rLog K).is G v i.1 ∧ (rL rN).is G w i.2.2
abbrev aLogT (K : PySem.W.Frag) : Log × Nat → Hp → List V → Prop := fun i G vs => WfL i.1 ∧ isAns i.1 i.2 = true ∧ ∃ v, vs = [v, .int (i.2 : Int), .bl true] ∧ (rLog K).is G v i.1
theorem pd_perm {α β : Type} {F : α → β → Prop} {vs us : List α} {xs : List β} (h : Pd F vs xs) (p : us.Perm vs) : ∃ ys, ys.Perm xs ∧ Pd F us ys := by
  have key : ∀ {vs us : List α}, vs.Perm us → ∀ {xs : List β}, Pd F vs xs → ∃ ys, ys.Perm xs ∧ Pd F us ys := by
    intro vs us p
    induction p with
    | nil => intro xs h; exact ⟨xs, .refl _, h⟩
    | cons a _ ih =>
      intro xs h
      cases h with
      | cons h1 h2 =>
        obtain ⟨ys, p1, p2⟩ := ih h2
        exact ⟨_, .cons _ p1, .cons h1 p2⟩
    | swap a b l =>
      intro xs h
      cases h with
      | cons h1 h2 => cases h2 with
        | cons h2 h3 => exact ⟨_, .swap _ _ _, .cons h2 (.cons h1 h3)⟩
    | trans _ _ ih1 ih2 =>
      intro xs h
      obtain ⟨ys, p1, p2⟩ := ih1 h
      obtain ⟨zs, p3, p4⟩ := ih2 p2
      exact ⟨zs, p3.trans p1, p4⟩
  exact key p.symm h
/-- pairs of ints, sorted -/
theorem ev_sortedP {K : PySem.W.Frag} {ta : TE} {σ : L2.St} {G : Hp} {P : List (Nat × Nat) → Prop} (h : EvP (rL (rT2 rN rN)) ta σ G P) : EvP (rL (rT2 rN rN)) (tCB (rSortedP K) (tCons ta tNil)) σ G (fun ys => ∃ xs, P xs ∧ ys.Perm xs) := ev_cb1 h fun G2 v x e r p H e2 Q q => by
  obtain ⟨a, vs, rfl, ha, hp⟩ := r
  refine ⟨a, vs, rfl, SqL.of (e2 a _ ha), fun y hy => ?_, fun ys p' h1 hn => ?_⟩
  · obtain ⟨z, _, t, v1, v2, rfl, ht, h1, h2⟩ := pd_mem hp hy
    cases h1; cases h2
    exact ⟨t, _, _, rfl, e2 t _ ht⟩
  · have n := Nxt.new (o := .lst ys) e2 hn
    obtain ⟨zs, hz, pz⟩ := pd_perm hp h1
    exact q _ _ _ zs n ⟨p', ys, rfl, upd_same, pd_mono (fun _ _ => (rT2 rN rN).ex n.g) pz⟩ ⟨x, p, hz⟩
section
variable {P : Program} {w : World} {K : PySem.W.Frag} {mg : Str → Option Value} {base : Heap}

abbrev N_Log_stretches : List Str := ["self", "judge", "found", "place"]
theorem sc_Log_stretches : FnScope N_Log_stretches ["self", "judge"] (defScope s_Log_stretches) := ⟨rfl, rfl, rfl, by decide +kernel, rfl, by decide +kernel, by decide +kernel⟩
theorem mk_Log_stretches (T : Tx K mg) {sp : Sp} (len : ∀ vs H Q E, sp vs H Q E → vs.length = 2)
    (hb : ∀ (cdv : Value) (A : Around) (outer : List Env) (s : Shared) (H : Hp) (vs : List V) (Q : VK) (E : XK), Room 5 (A.deeper (envOfC "Log.stretches" (defScope s_Log_stretches) s.heap.objs.size (He.ma K (He.ga K "Log") "stretches") cdv)) → sp vs H Q E →
      ∃ t, PSs (cxOf CX0 P w K mg base N_Log_stretches "Log.stretches" (defScope s_Log_stretches) (He.ma K (He.ga K "Log") "stretches") cdv A outer s H E).nox (defBody s_Log_stretches) t ∧ t { nx := fun _ H' => Q .non H', rt := Q } (start N_Log_stretches vs) H) : Met P w K mg base 6 (He.ga K "Log") "stretches" sp := by
  obtain ⟨fd, F⟩ := T.fn 47 rfl
  have b : Binds K fd ["self", "judge"] [] := F.binds fun _ _ _ _ _ _ us hl => match us, hl with | [_, _], _ => rfl
  exact ⟨_, fd, _, T.cls 37 rfl, T.meth 63 rfl, F.ok sc_Log_stretches len hb, b⟩
def sp_Log_stretches (K : PySem.W.Frag) : Sp := mkSp (aLogJ K) (rL (rL rN)) (fun i y => IsSts i.1 i.2 y)
theorem ln_Log_stretches {K : PySem.W.Frag} : ∀ vs H Q E, sp_Log_stretches K vs H Q E → vs.length = 2 := by
  rintro vs H Q E ⟨G, i, e, h, _⟩
  have h : (aLogJ K) i G vs := h
  obtain ⟨_, _, v, rfl, _⟩ := h; rfl
theorem ok_Log_stretches (T : Tx K mg) : Met P w K mg base 6 (He.ga K "Log") "stretches" (sp_Log_stretches K) := mk_Log_stretches T ln_Log_stretches (fun cdv A outer s H vs Q E hr h => by
  have hu := hu_of hr
  have nd := sc_Log_stretches.nd
  obtain ⟨G, i, e, ha, q⟩ := h
  refine ⟨_, pss_cons (ps_set (i := 2) nd rfl (Or.inl rfl) (pe_lst (pa_nil)))
      (pss_cons (ps_for PassesOwn.never rfl (k_iList (K := K) rfl (pe_m (ok_Log_answers_of T) hr (pv 0) (pa_cons (pv 1) pa_nil))) (pg_name (i := 3) nd rfl (Or.inl rfl)) (pss_one (ps_if (PW.pt (pw_or (pt_cmpR op_eq (pe_callB (k_len (K := K) rfl) (by rfl) (T.free 74 rfl) (by decide +kernel) (pa_cons (pv 2) pa_nil)) (pe_int) (nomark _)) (pw_or1 (pt_cmpR (k_notIn (K := K) rfl) (pv 3) (pe_ix (k_ixL (K := K) rfl) (pv 2) (pe_un un_neg (pe_int)) (fun _ _ => rfl)) rfl)))) (pss_one (ps_expr (pe_bm PySem.F.plainAttrs_list PySem.F.slot_list_append PySem.F.type_list_append mt_append (pv 2) (pa_cons (pe_m (ok_Log_stretch_of T) hr (pv 0) (pa_cons (pv 3) pa_nil)) pa_nil)))) (pss_nil))))
      (pss_one (ps_ret (pv 2)))), ?_⟩
  obtain ⟨L, j⟩ := i
  dsimp only [aLogJ] at ha
  obtain ⟨W, hj, v, rfl, hv⟩ := ha
  dsimp only at W hv q hj
  have hl := W.elen
  have hal := ansL_len (L := L)
  have hfl : ((ansL L).filter fun p => decide (jgOf L p = j)).length ≤ (ansL L).length := List.length_filter_le _ _
  have memA : ∀ p, p ∈ ((ansL L).filter fun p => decide (jgOf L p = j)) ↔ RB.AnsOf L j p := fun p => by rw [List.mem_filter, mem_ansL, decide_eq_true_eq, ansOf_iff]
  refine q_newL e fun l H1 n1 own1 => ?_
  refine q_for (ei_list (R := rN) (P := fun xs => xs = (ansL L).filter fun p => decide (jgOf L p = j)) (ev_lmJ W hj (ev_var rfl hv) (ev_var rfl rfl))) n1.s (fun xs G2 H2 hx n2 => ?_)
  subst hx
  generalize hA : ((ansL L).filter fun p => decide (jgOf L p = j)) = as at memA hfl
  refine ⟨fun i σ' G' H' => Nxt G H G' H' ∧ (∃ a, σ' = [some v, some (.str j), some (.ref l), a]) ∧ ∃ us yss, Own H G' H' l (.lst us) ∧ Pd ((rL rN).is G') us yss ∧ yss.length ≤ i ∧ (∀ s ∈ yss, s.Pairwise (· < ·) ∧ s.length ≤ 24 ∧ ∃ p, RB.AnsOf L j p ∧ ∀ at_, at_ ∈ s ↔ RB.AnsOf L j at_ ∧ RB.Same L j p at_) ∧ (∀ p ∈ as.take i, ∃ s ∈ yss, p ∈ s),
    ⟨n1.trans n2, ⟨_, rfl⟩, [], [], own1.nxt n2, .nil, Nat.le_refl _, by simp, by simp⟩, ?_, ?_⟩
  · rintro i x σ' G' H' hx e1 e2 ⟨nn, ⟨a, rfl⟩, us, yss, own, pu, hlen, heach, hall⟩ w1 G3 H3 n3 rfl
    have own3 := own.nxt n3
    have pu3 : Pd ((rL rN).is G3) us yss := pd_mono (fun _ _ => (rL rN).ex n3.g) pu
    have hxm : x ∈ as := List.mem_of_getElem? hx
    have hxa : RB.AnsOf L j x := (memA x).mp hxm
    have hxi := ansOf_iff.mp hxa
    have hi : i < as.length := (List.getElem?_eq_some_iff.mp hx).1
    have hr : (rL (rL rN)).is (upd G3 l (.lst us)) (.ref l) yss := own_list own3 pu3 n3.s
    have take1 : as.take (i + 1) = as.take i ++ [x] := by rw [List.take_add_one, hx]; rfl
    refine s_ifO (b := yss.isEmpty || !(decide (∃ s ∈ yss.getLast?, x ∈ s))) own3 (et_or (et_test (ev_val (ev_eqI (ev_N (ev_len (ev_var rfl hr))) ev_int) ?_)) (fun hne => ?_)) n3.s (fun hb G4 H4 n4 own4 => ?_) (fun hb G4 H4 n4 own4 => ?_)
    · cases yss with
      | nil => rfl
      | cons a r => exact decide_eq_false (by simp only [List.length_cons]; omega)
    · have hne2 : yss ≠ [] := fun z => by subst z; cases hne
      have hlast := List.dropLast_concat_getLast hne2
      refine et_test (ev_val (ev_notInN (ev_var rfl rfl) (ev_ixLast (xs := yss.dropLast) (x := yss.getLast hne2) (by rw [hlast]; exact ev_var rfl hr) (ev_neg ev_int))) ?_)
      rw [List.getLast?_eq_some_getLast hne2]
      congr 1
      exact decide_eq_decide.mpr ⟨fun h => ⟨_, rfl, h⟩, fun ⟨s, h1, h2⟩ => by cases h1; exact h2⟩
    · refine s_app own4 rfl (R := rL rN) (PA := fun y => y.Pairwise (· < ·) ∧ y.length ≤ 24 ∧ ∀ at_, at_ ∈ y ↔ RB.AnsOf L (jgOf L x) at_ ∧ RB.Same L (jgOf L x) x at_) (ev_lmP W hxi.1 (ev_var rfl ((rLog K).ex ((nn.g.trans n3.g).trans n4.g) hv)) (ev_var rfl rfl)) n4.s ?_ fun u5 G5 H5 y n5 r5 p5 own5 => ?_
      · have := pd_len pu3; omega
      · refine ⟨G5, ((e1.trans n3.g).trans n4.g).trans n5.g, ?_, (((nn.trans n3).trans n4).trans n5).mut own.s (own4.nxt n5).g, ⟨_, rfl⟩, us ++ [u5], yss ++ [y], own5, pd_snoc (pd_mono (fun _ _ => (rL rN).ex (n4.g.trans n5.g)) pu3) r5, ?_, ?_, ?_⟩
        · exact n5.s.mut (own4.nxt n5).g
        · simp only [List.length_append, List.length_singleton]; omega
        · intro s hs
          rcases List.mem_append.mp hs with hs | hs
          · exact heach s hs
          · rw [List.mem_singleton.mp hs]
            rw [hxi.2] at p5
            exact ⟨p5.1, p5.2.1, x, hxa, p5.2.2⟩
        · intro p hp
          rw [take1] at hp
          rcases List.mem_append.mp hp with hp | hp
          · obtain ⟨s, h1, h2⟩ := hall p hp
            exact ⟨s, List.mem_append_left _ h1, h2⟩
          · rw [List.mem_singleton.mp hp]
            refine ⟨y, List.mem_append_right _ (List.mem_singleton.mpr rfl), ?_⟩
            rw [p5.2.2, hxi.2]
            exact ⟨hxa, RB.Same.refl _ _ _⟩
    · refine ⟨G4, (e1.trans n3.g).trans n4.g, n4.s, (nn.trans n3).trans n4, ⟨_, rfl⟩, us, yss, own4, pd_mono (fun _ _ => (rL rN).ex n4.g) pu3, by omega, heach, fun p hp => ?_⟩
      rw [take1] at hp
      rcases List.mem_append.mp hp with hp | hp
      · exact hall p hp
      · rw [List.mem_singleton.mp hp]
        rw [Bool.or_eq_false_iff] at hb
        have h2 : decide (∃ s ∈ yss.getLast?, x ∈ s) = true := by
          cases h : decide (∃ s ∈ yss.getLast?, x ∈ s) with
          | true => rfl
          | false => rw [h] at hb; cases hb.2
        obtain ⟨s, h3, h4⟩ := of_decide_eq_true h2
        exact ⟨s, List.mem_of_getLast? h3, h4⟩
  · rintro σ' G' H' e1 e2 ⟨nn, ⟨a, rfl⟩, us, yss, own, pu, hlen, heach, hall⟩
    rw [List.take_length] at hall
    exact s_retL nn own (Ex.refl _) pu rfl fun u5 G5 H5 n5 r5 => q u5 G5 H5 yss n5 r5 ⟨heach, fun p hp => hall p ((memA p).mpr hp), by omega⟩)
end
end FW
/-! links_in, in_turn, links_of, ends_of. -/
namespace FW
open PySem PySem.Spec PyProof.Rows L2 Hd
def goodL (L : Log) (d : RB.Drift) (a b : Nat) : Bool := decide (grOf L a < grOf L b) && (decide (dStr d = "stays") || (decide (a < b) == decide (dStr d = "rises")))
theorem goodL_iff {L : Log} {d : RB.Drift} {a b : Nat} : goodL L d a b = true ↔ grOf L a < grOf L b ∧ RB.ord d a b := by
  unfold goodL
  rw [Bool.and_eq_true, decide_eq_true_eq]
  refine and_congr_right fun h => ?_
  have hne : a ≠ b := fun z => by subst z; omega
  cases d with
  | stays => exact ⟨fun _ => trivial, fun _ => by show (decide (("stays" : Str) = "stays") || _) = true; rw [decide_eq_true rfl]; rfl⟩
  | rises =>
    show (decide (("rises" : Str) = "stays") || (decide (a < b) == decide (("rises" : Str) = "rises"))) = true ↔ a < b
    rw [decide_eq_false (show ¬ (("rises" : Str) = "stays") by decide), decide_eq_true (show (("rises" : Str) = "rises") from rfl)]
    by_cases h : a < b <;> simp [h]
  | falls =>
    show (decide (("falls" : Str) = "stays") || (decide (a < b) == decide (("falls" : Str) = "rises"))) = true ↔ b < a
    rw [decide_eq_false (show ¬ (("falls" : Str) = "stays") by decide), decide_eq_false (show ¬ (("falls" : Str) = "rises") by decide)]
    by_cases h : a < b
    · simp [h]; omega
    · simp [h]; omega
def rowL (L : Log) (d : RB.Drift) (st : List Nat) (a : Nat) : List (Nat × Nat) := (st.filter fun b => goodL L d a b).map fun b => (a, b)
def linksIn (L : Log) (d : RB.Drift) (st : List Nat) : List (Nat × Nat) := st.flatMap (rowL L d st)
theorem mem_linksIn {L : Log} {d : RB.Drift} {st : List Nat} {a b : Nat} : (a, b) ∈ linksIn L d st ↔ a ∈ st ∧ b ∈ st ∧ grOf L a < grOf L b ∧ RB.ord d a b := by
  unfold linksIn rowL
  rw [List.mem_flatMap]
  constructor
  · rintro ⟨x, hx, h⟩
    obtain ⟨y, hy, e⟩ := List.mem_map.mp h
    cases e
    obtain ⟨h1, h2⟩ := List.mem_filter.mp hy
    exact ⟨hx, h1, goodL_iff.mp h2⟩
  · rintro ⟨h1, h2, h3⟩
    exact ⟨a, h1, List.mem_map.mpr ⟨b, List.mem_filter.mpr ⟨h2, goodL_iff.mpr h3⟩, rfl⟩⟩
theorem len_rowL {L : Log} {d : RB.Drift} {st : List Nat} {a : Nat} : (rowL L d st a).length ≤ st.length := by
  unfold rowL
  rw [List.length_map]
  exact List.length_filter_le _ _
theorem len_flat {α β : Type} {f : α → List β} {n : Nat} (h : ∀ a, (f a).length ≤ n) : ∀ xs : List α, (xs.flatMap f).length ≤ xs.length * n
  | [] => by simp
  | a :: r => by
    rw [List.flatMap_cons, List.length_append, List.length_cons, Nat.add_mul]
    have := len_flat h r
    have := h a
    omega
section
variable {P : Program} {w : World} {K : PySem.W.Frag} {mg : Str → Option Value} {base : Heap}

abbrev N_links_in : List Str := ["log", "drift", "stretch", "grades", "found", "first", "second", "place"]
theorem sc_links_in : FnScope N_links_in ["log", "drift", "stretch"] (defScope s_links_in) := ⟨rfl, rfl, rfl, by decide +kernel, rfl, by decide +kernel, by decide +kernel⟩
theorem mk_links_in (T : Tx K mg) {sp : Sp} (len : ∀ vs H Q E, sp vs H Q E → vs.length = 3)
    (hb : ∀ (cdv : Value) (A : Around) (outer : List Env) (s : Shared) (H : Hp) (vs : List V) (Q : VK) (E : XK), Room 3 (A.deeper (envOfC "links_in" (defScope s_links_in) s.heap.objs.size (He.ga K "links_in") cdv)) → sp vs H Q E →
      ∃ t, PSs (cxOf CX0 P w K mg base N_links_in "links_in" (defScope s_links_in) (He.ga K "links_in") cdv A outer s H E).nox (defBody s_links_in) t ∧ t { nx := fun _ H' => Q .non H', rt := Q } (start N_links_in vs) H) : Cal P w K mg base 4 "links_in" sp := by
  obtain ⟨fd, F⟩ := T.fn 1 rfl
  have b : Binds K fd ["log", "drift", "stretch"] [] := F.binds fun _ _ _ _ _ _ us hl => match us, hl with | [_, _, _], _ => rfl
  exact ⟨_, fd, _, F.ok sc_links_in len hb, T.glo 1 rfl, F.kp, b⟩
def sp_links_in (K : PySem.W.Frag) : Sp := mkSp (aLin K) (rL (rT2 rN rN)) (fun i y => y = linksIn i.1 i.2.1 i.2.2)
theorem ln_links_in {K : PySem.W.Frag} : ∀ vs H Q E, sp_links_in K vs H Q E → vs.length = 3 := by
  rintro vs H Q E ⟨G, i, e, h, _⟩
  have h : (aLin K) i G vs := h
  obtain ⟨_, _, v, w, rfl, _⟩ := h; rfl
theorem ok_links_in (T : Tx K mg) : Cal P w K mg base 4 "links_in" (sp_links_in K) := mk_links_in T ln_links_in (fun cdv A outer s H vs Q E hr h => by
  have hu := hu_of hr
  have nd := sc_links_in.nd
  obtain ⟨G, i, e, ha, q⟩ := h
  refine ⟨_, pss_cons (ps_setDc (i := 3) (own := [("place", 7)]) (g := (gName 7)) (tt := tYes) rfl nd rfl rfl (sw_trueD rfl rfl rfl (by decide +kernel)) (k_iList (K := K) rfl (pv 2)) (blkOk_by (by kernel_rfl)) (fun _ _ _ _ _ => pg_name (i := 7) nd rfl (by first | exact Or.inl rfl | exact Or.inr rfl)) (fun _ _ _ _ _ => pts_nil) (fun _ _ _ _ _ => pv 7) (fun _ _ _ _ _ => pe_m (ok_Log_grade_at T) hr (pv 0) (pa_cons (pv 7) pa_nil)))
      (pss_cons (ps_set (i := 4) nd rfl (Or.inl rfl) (pe_lst (pa_nil)))
      (pss_cons (ps_for PassesOwn.never rfl (k_iList (K := K) rfl (pv 2)) (pg_name (i := 5) nd rfl (Or.inl rfl)) (pss_one (ps_for PassesOwn.never rfl (k_iList (K := K) rfl (pv 2)) (pg_name (i := 6) nd rfl (Or.inl rfl)) (pss_one (ps_if (PW.pt (pw_and (pt_cmpR op_lt (pe_dget hu (pv 3) (pv 5) (fun _ _ => rfl)) (pe_dget hu (pv 3) (pv 6) (fun _ _ => rfl)) (nomark _)) (pw_and1 (PW.pt (pw_or (pt_cmpR op_eq (pv 1) (pe_str) (nomark _)) (pw_or1 (pt_cmpR op_eq (pe_cmpR op_lt (pv 5) (pv 6) (nomark _)) (pe_cmpR op_eq (pv 1) (pe_str) (nomark _)) (nomark _)))))))) (pss_one (ps_expr (pe_bm PySem.F.plainAttrs_list PySem.F.slot_list_append PySem.F.type_list_append mt_append (pv 4) (pa_cons (pe_tup (pa_cons (pv 5) (pa_cons (pv 6) pa_nil))) pa_nil)))) (pss_nil))))))
      (pss_one (ps_ret (pv 4))))), ?_⟩
  obtain ⟨L, d, st⟩ := i
  dsimp only [aLin] at ha
  obtain ⟨W, ⟨hans, h24, hnd⟩, v, w, rfl, hv, hw⟩ := ha
  dsimp only at q
  refine q_asg (R := rD kN FW.rI) (ev_dcM (R := rN) (RK := rN) (ky := fun p => p) (f := grOf L) inj_N key_N (ei_list (ev_var rfl hw)) (by omega) (by rw [List.map_id']; exact hnd) fun x hx G2 u e2 r => ?_) e fun u1 G1 H1 n1 r1 => ?_
  · cases r
    exact ⟨_, tg_name, rfl, ev_var rfl rfl, ev_lmP W (hans x hx) (ev_var rfl ((rLog K).ex e2 hv)) (ev_var rfl rfl)⟩
  have hlook : ∀ p ∈ st, look (st.map fun x => (x, grOf L x)) p = some (grOf L p) := fun p hp => look_of_mem (by rw [List.map_map]; exact (List.map_id' st).symm ▸ hnd) (List.mem_map.mpr ⟨p, hp, rfl⟩)
  refine q_newL n1.s fun l H2 n2 own2 => ?_
  refine q_for (ei_list (R := rN) (P := fun xs => xs = st) (ev_var rfl (by exact (rL rN).ex n1.g hw))) n2.s (fun xs G3 H3 hx n3 => ?_)
  subst hx
  refine ⟨fun i σ' G' H' => Nxt G H G' H' ∧ (∃ a b, σ' = [some v, some (.str (dStr d)), some w, some u1, some (.ref l), a, b, none]) ∧ ∃ us, Own H1 G' H' l (.lst us) ∧ Pd ((rT2 rN rN).is G') us ((xs.take i).flatMap (rowL L d xs)),
    ⟨(n1.trans n2).trans n3, ⟨_, _, rfl⟩, [], own2.nxt n3, by rw [List.take_zero]; exact .nil⟩, ?_, ?_⟩
  · rintro i x σ' G' H' hx e1 e2 ⟨nn, ⟨a, b, rfl⟩, us, own, pu⟩ w1 G4 H4 n4 rfl
    have hxm : x ∈ xs := List.mem_of_getElem? hx
    have hi : i < xs.length := (List.getElem?_eq_some_iff.mp hx).1
    refine s_for (ei_list (R := rN) (P := fun ys => ys = xs) (ev_var rfl (by exact (rL rN).ex ((n2.g.trans n3.g).trans (e1.trans n4.g)) ((rL rN).ex n1.g hw)))) n4.s (fun ys G5 H5 hy n5 => ?_)
    subst hy
    refine ⟨fun j σ' G' H' => Nxt G H G' H' ∧ (∃ b, σ' = [some v, some (.str (dStr d)), some w, some u1, some (.ref l), some (.int (x : Int)), b, none]) ∧ ∃ us, Own H1 G' H' l (.lst us) ∧ Pd ((rT2 rN rN).is G') us ((ys.take i).flatMap (rowL L d ys) ++ ((ys.take j).filter fun b => goodL L d x b).map fun b => (x, b)),
      ⟨(nn.trans n4).trans n5, ⟨_, rfl⟩, us, (own.nxt n4).nxt n5, by rw [List.take_zero, List.filter_nil, List.map_nil, List.append_nil]; exact pd_mono (fun _ _ => (rT2 rN rN).ex (n4.g.trans n5.g)) pu⟩, ?_, ?_⟩
    · rintro j y σ' G' H' hy e3 e4 ⟨nn2, ⟨b, rfl⟩, us, own, pu⟩ w2 G6 H6 n6 rfl
      have hym : y ∈ ys := List.mem_of_getElem? hy
      have hj : j < ys.length := (List.getElem?_eq_some_iff.mp hy).1
      have g1 : Ex G1 G6 := ((n2.g.trans n3.g).trans (e1.trans n4.g)).trans (n5.g.trans (e3.trans n6.g))
      have hd := rD_r ((rD kN FW.rI).ex g1 r1)
      have take1 : ys.take (j + 1) = ys.take j ++ [y] := by rw [List.take_add_one, hy]; rfl
      have own6 := own.nxt n6
      have pu6 := pd_mono (fun _ _ => (rT2 rN rN).ex n6.g) pu
      refine s_if (b := goodL L d x y) (et_and (et_test (ev_cmpI (r := fun i j => decide (i < j)) (ev_dget (RK := rN) inj_N key_N (ev_var rfl hd) (ev_var rfl rfl) (hlook x hxm)) (ev_dget (RK := rN) inj_N key_N (ev_var rfl hd) (ev_var rfl rfl) (hlook y hym))))
        (fun _ => et_or (et_test (ev_eqS (ev_var rfl rfl) ev_str)) fun _ => et_test (ev_eqB (ev_val (ev_cmpI (r := fun i j => decide (i < j)) (ev_N (ev_var rfl rfl)) (ev_N (ev_var rfl rfl))) (decide_eq_decide.mpr (by omega))) (ev_eqS (ev_var rfl rfl) ev_str)))) n6.s (fun hb G7 H7 n7 => ?_) (fun hb G7 H7 n7 => ?_)
      · refine s_app (own6.nxt n7) rfl (ev_tup2D (R := rN) (S := rN) (x := x) (y := y) (ev_var rfl rfl) (ev_var rfl rfl)) n7.s ?_ fun u8 G8 H8 z n8 r8 p8 own8 => ?_
        · have h1 := pd_len pu6
          have h2 := len_flat (n := 24) (fun a => Nat.le_trans (len_rowL (L := L) (d := d) (st := ys) (a := a)) h24) (ys.take i)
          have h3 : ((ys.take j).filter fun b => goodL L d x b).length ≤ (ys.take j).length := List.length_filter_le _ _
          rw [List.length_take] at h2 h3
          rw [List.length_append, List.length_map] at h1
          omega
        · subst p8
          refine ⟨G8, (e3.trans n6.g).trans (n7.g.trans n8.g), n8.s.mut own8.g, (((nn2.trans n6).trans n7).trans n8).mut (n1.h.free own.s) own8.g, ⟨_, rfl⟩, us ++ [u8], own8, ?_⟩
          rw [take1, List.filter_append, List.map_append, ← List.append_assoc, List.filter_cons, if_pos hb]
          exact pd_snoc (pd_mono (fun _ _ => (rT2 rN rN).ex (n7.g.trans n8.g)) pu6) r8
      · refine ⟨G7, (e3.trans n6.g).trans n7.g, n7.s, (nn2.trans n6).trans n7, ⟨_, rfl⟩, us, own6.nxt n7, ?_⟩
        rw [take1, List.filter_append, List.map_append, ← List.append_assoc, List.filter_cons, if_neg (by rw [hb]; exact Bool.false_ne_true), List.filter_nil, List.map_nil, List.append_nil]
        exact pd_mono (fun _ _ => (rT2 rN rN).ex n7.g) pu6
    · rintro σ' G' H' e3 e4 ⟨nn2, ⟨b, rfl⟩, us, own, pu⟩
      refine ⟨G', (e1.trans n4.g).trans (n5.g.trans e3), e4, nn2, ⟨_, _, rfl⟩, us, own, ?_⟩
      rw [List.take_length] at pu
      rw [List.take_add_one, hx, List.flatMap_append]
      show Pd _ us (_ ++ [x].flatMap _)
      rw [List.flatMap_singleton]
      exact pu
  · rintro σ' G' H' e1 e2 ⟨nn, ⟨a, b, rfl⟩, us, own, pu⟩
    rw [List.take_length] at pu
    exact s_retL nn own n1.h pu rfl fun u5 G5 H5 n5 r5 => q u5 G5 H5 _ n5 r5 rfl)
end
end FW
/-! in_turn, links_of, ends_of. -/
namespace FW
open PySem PySem.Spec PyProof.Rows L2 Hd
/-- at is ahead of p, in j's turn -/
def ahd (L : Log) (p a : Nat) : Bool := decide (a = p) || (decide (dStr (driftOf L (jgOf L p)) = "stays") || (decide (a < p) == decide (dStr (driftOf L (jgOf L p)) = "rises")))
/-- a link by the judge z -/
def LinkJ (L : Log) (z : Str × RB.Drift) (a b : Nat) : Prop := RB.AnsOf L z.1 a ∧ RB.AnsOf L z.1 b ∧ RB.Same L z.1 a b ∧ grOf L a < grOf L b ∧ RB.ord z.2 a b
theorem linkJ_iff {L : Log} {a b : Nat} {x y : Str} : RB.Link L a b x y ↔ (∃ z ∈ L.judges, LinkJ L z a b) ∧ x = itOf L a ∧ y = itOf L b := by
  constructor
  · rintro ⟨j, g, h, d, e1, e2, hj, hg, ho, hs⟩
    have h1 := isAns_of e1
    have h2 := isAns_of e2
    exact ⟨⟨(j, d), hj, ⟨_, _, e1⟩, ⟨_, _, e2⟩, hs, by rw [h1.2.2.2, h2.2.2.2]; exact hg, ho⟩, h1.2.2.1.symm, h2.2.2.1.symm⟩
  · rintro ⟨⟨⟨j, d⟩, hj, ⟨i1, g1, e1⟩, ⟨i2, g2, e2⟩, hs, hg, ho⟩, rfl, rfl⟩
    have h1 := isAns_of e1
    have h2 := isAns_of e2
    rw [h1.2.2.2, h2.2.2.2] at hg
    refine ⟨j, g1, g2, d, ?_, ?_, hj, hg, ho, hs⟩
    · rw [e1, h1.2.2.1]
    · rw [e2, h2.2.2.1]
def inSts (L : Log) (d : RB.Drift) (ss : List (List Nat)) (a b : Nat) : Prop := ∃ s ∈ ss, a ∈ s ∧ b ∈ s ∧ grOf L a < grOf L b ∧ RB.ord d a b
theorem inSts_iff {L : Log} {j : Str} {d : RB.Drift} {ss : List (List Nat)} (h : IsSts L j ss) {a b : Nat} : inSts L d ss a b ↔ LinkJ L (j, d) a b := by
  constructor
  · rintro ⟨s, hs, ha, hb, hg, ho⟩
    obtain ⟨_, _, p, hp, hm⟩ := h.each s hs
    have h1 := (hm a).mp ha
    have h2 := (hm b).mp hb
    exact ⟨h1.1, h2.1, h1.2.symm.trans hp h2.2, hg, ho⟩
  · rintro ⟨h1, h2, h3, h4, h5⟩
    obtain ⟨s, hs, ha⟩ := h.all a h1
    obtain ⟨_, _, p, hp, hm⟩ := h.each s hs
    exact ⟨s, hs, ha, (hm b).mpr ⟨h2, ((hm a).mp ha).2.trans h1 h3⟩, h4, h5⟩
structure IsLks (L : Log) (y : List (Nat × Nat)) : Prop where
  mem : ∀ a b, (a, b) ∈ y ↔ ∃ z ∈ L.judges, LinkJ L z a b
  len : y.length ≤ 50000
structure IsEnds (L : Log) (y : List ((Nat × Nat) × Str × Str)) : Prop where
  mem : ∀ a b x z, ((a, b), x, z) ∈ y ↔ RB.Link L a b x z
  len : y.length ≤ 50000
section
variable {P : Program} {w : World} {K : PySem.W.Frag} {mg : Str → Option Value} {base : Heap}

abbrev N_in_turn : List Str := ["log", "place", "is_ahead", "drift", "found", "at"]
theorem sc_in_turn : FnScope N_in_turn ["log", "place", "is_ahead"] (defScope s_in_turn) := ⟨rfl, rfl, rfl, by decide +kernel, rfl, by decide +kernel, by decide +kernel⟩
theorem mk_in_turn (T : Tx K mg) {sp : Sp} (len : ∀ vs H Q E, sp vs H Q E → vs.length = 3)
    (hb : ∀ (cdv : Value) (A : Around) (outer : List Env) (s : Shared) (H : Hp) (vs : List V) (Q : VK) (E : XK), Room 5 (A.deeper (envOfC "in_turn" (defScope s_in_turn) s.heap.objs.size (He.ga K "in_turn") cdv)) → sp vs H Q E →
      ∃ t, PSs (cxOf CX0 P w K mg base N_in_turn "in_turn" (defScope s_in_turn) (He.ga K "in_turn") cdv A outer s H E).nox (defBody s_in_turn) t ∧ t { nx := fun _ H' => Q .non H', rt := Q } (start N_in_turn vs) H) : Cal P w K mg base 6 "in_turn" sp := by
  obtain ⟨fd, F⟩ := T.fn 2 rfl
  have b : Binds K fd ["log", "place", "is_ahead"] [] := F.binds fun _ _ _ _ _ _ us hl => match us, hl with | [_, _, _], _ => rfl
  exact ⟨_, fd, _, F.ok sc_in_turn len hb, T.glo 2 rfl, F.kp, b⟩
def sp_in_turn (K : PySem.W.Frag) : Sp := mkSp (aLogT K) (rL rN) (fun i y => y.length ≤ 24 ∧ ∀ at_, at_ ∈ y ↔ (RB.AnsOf i.1 (jgOf i.1 i.2) at_ ∧ RB.Same i.1 (jgOf i.1 i.2) i.2 at_) ∧ ahd i.1 i.2 at_ = true)
theorem ln_in_turn {K : PySem.W.Frag} : ∀ vs H Q E, sp_in_turn K vs H Q E → vs.length = 3 := by
  rintro vs H Q E ⟨G, i, e, h, _⟩
  have h : (aLogT K) i G vs := h
  obtain ⟨_, _, v, rfl, _⟩ := h; rfl
theorem ok_in_turn (T : Tx K mg) : Cal P w K mg base 6 "in_turn" (sp_in_turn K) := mk_in_turn T ln_in_turn (fun cdv A outer s H vs Q E hr h => by
  have hu := hu_of hr
  have nd := sc_in_turn.nd
  obtain ⟨G, i, e, ha, q⟩ := h
  refine ⟨_, pss_cons (ps_set (i := 3) nd rfl (Or.inl rfl) (pe_m (ok_Log_drift_of T) hr (pv 0) (pa_cons (pe_m (ok_Log_judge_at T) hr (pv 0) (pa_cons (pv 1) pa_nil)) pa_nil)))
      (pss_cons (ps_set (i := 4) nd rfl (Or.inl rfl) (pe_lst (pa_nil)))
      (pss_cons (ps_for PassesOwn.never rfl (k_iList (K := K) rfl (pe_m (ok_Log_stretch_of T) hr (pv 0) (pa_cons (pv 1) pa_nil))) (pg_name (i := 5) nd rfl (Or.inl rfl)) (pss_one (ps_if (PW.pt (pw_or (pt_cmpR op_eq (pv 5) (pv 1) (nomark _)) (pw_or (pt_cmpR op_eq (pv 3) (pe_str) (nomark _)) (pw_or1 (pt_cmpR op_eq (pe_cmpR op_lt (pv 5) (pv 1) (nomark _)) (pe_cmpR op_eq (pv 2) (pe_cmpR op_eq (pv 3) (pe_str) (nomark _)) (nomark _)) (nomark _)))))) (pss_one (ps_expr (pe_bm PySem.F.plainAttrs_list PySem.F.slot_list_append PySem.F.type_list_append mt_append (pv 4) (pa_cons (pv 5) pa_nil)))) (pss_nil))))
      (pss_one (ps_ret (pv 4))))), ?_⟩
  obtain ⟨L, p⟩ := i
  dsimp only [aLogT] at ha
  obtain ⟨W, hp, v, rfl, hv⟩ := ha
  dsimp only at q
  have hj := (W.ansj hp).1
  refine q_asg (R := rDf) (x := driftOf L (jgOf L p)) (ev_lmJ W hj (ev_var rfl hv) (ev_lmP W hp (ev_var rfl hv) (ev_var rfl rfl))) e fun u1 G1 H1 n1 r1 => ?_
  refine q_newL n1.s fun l H2 n2 own2 => ?_
  refine q_for (ei_list (R := rN) (P := fun y => y.Pairwise (· < ·) ∧ y.length ≤ 24 ∧ ∀ at_, at_ ∈ y ↔ RB.AnsOf L (jgOf L p) at_ ∧ RB.Same L (jgOf L p) p at_) (ev_lmP W hp (ev_var rfl ((rLog K).ex n1.g hv)) (ev_var rfl rfl))) n2.s (fun xs G3 H3 hx n3 => ?_)
  refine ⟨fun i σ' G' H' => Nxt G H G' H' ∧ (∃ a, σ' = [some v, some (.int (p : Int)), some (.bl true), some u1, some (.ref l), a]) ∧ ∃ us, Own H1 G' H' l (.lst us) ∧ Pd (rN.is G') us ((xs.take i).filter (ahd L p)), ⟨(n1.trans n2).trans n3, ⟨_, rfl⟩, [], own2.nxt n3, by rw [List.take_zero]; exact .nil⟩, ?_, ?_⟩
  · rintro i x σ' G' H' hx2 e1 e2 ⟨nn, ⟨a, rfl⟩, us, own, pu⟩ w1 G4 H4 n4 rfl
    have r4 : rDf.is G4 u1 (driftOf L (jgOf L p)) := r1
    have take1 : xs.take (i + 1) = xs.take i ++ [x] := by rw [List.take_add_one, hx2]; rfl
    refine s_if (b := ahd L p x) (et_or (et_test (ev_val (ev_eqI (ev_N (ev_var rfl rfl)) (ev_N (ev_var rfl rfl))) (decide_eq_decide.mpr (by omega)))) fun _ => et_or (et_test (ev_eqS (ev_var rfl r4) ev_str)) fun _ => et_test (ev_val (ev_eqB (ev_cmpI (r := fun i j => decide (i < j)) (ev_N (ev_var rfl rfl)) (ev_N (ev_var rfl rfl))) (ev_eqB (x := true) (ev_var rfl rfl) (ev_eqS (ev_var rfl r4) ev_str))) ?_)) n4.s (fun hb G7 H7 n7 => ?_) (fun hb G7 H7 n7 => ?_)
    · rw [decide_eq_decide.mpr (show ((x : Int) < (p : Int)) ↔ x < p by omega)]
      cases decide (dStr (driftOf L (jgOf L p)) = "rises") <;> rfl
    · refine s_app ((own.nxt n4).nxt n7) rfl (R := rN) (PA := fun y => y = x) (ev_var rfl rfl) n7.s ?_ fun u8 G8 H8 z n8 r8 p8 own8 => ?_
      · have h1 := pd_len pu
        have h3 := List.length_filter_le (ahd L p) (xs.take i)
        rw [List.length_take] at h3
        have := hx.2.1
        omega
      · subst p8
        refine ⟨G8, (e1.trans n4.g).trans (n7.g.trans n8.g), n8.s.mut own8.g, (((nn.trans n4).trans n7).trans n8).mut (n1.h.free own.s) own8.g, ⟨_, rfl⟩, us ++ [u8], own8, ?_⟩
        rw [take1, List.filter_append, List.filter_cons, if_pos hb]
        exact pd_snoc pu r8
    · refine ⟨G7, (e1.trans n4.g).trans n7.g, n7.s, (nn.trans n4).trans n7, ⟨_, rfl⟩, us, (own.nxt n4).nxt n7, ?_⟩
      rw [take1, List.filter_append, List.filter_cons, if_neg (by rw [hb]; exact Bool.false_ne_true), List.filter_nil, List.append_nil]
      exact pu
  · rintro σ' G' H' e1 e2 ⟨nn, ⟨a, rfl⟩, us, own, pu⟩
    rw [List.take_length] at pu
    refine s_retL nn own n1.h pu rfl fun u5 G5 H5 n5 r5 => q u5 G5 H5 _ n5 r5 ⟨Nat.le_trans (List.length_filter_le _ _) hx.2.1, fun at_ => ?_⟩
    rw [List.mem_filter, hx.2.2])
abbrev N_links_of : List Str := ["log", "found", "judge", "drift", "stretch"]
theorem sc_links_of : FnScope N_links_of ["log"] (defScope s_links_of) := ⟨rfl, rfl, rfl, by decide +kernel, rfl, by decide +kernel, by decide +kernel⟩
theorem mk_links_of (T : Tx K mg) {sp : Sp} (len : ∀ vs H Q E, sp vs H Q E → vs.length = 1)
    (hb : ∀ (cdv : Value) (A : Around) (outer : List Env) (s : Shared) (H : Hp) (vs : List V) (Q : VK) (E : XK), Room 6 (A.deeper (envOfC "links_of" (defScope s_links_of) s.heap.objs.size (He.ga K "links_of") cdv)) → sp vs H Q E →
      ∃ t, PSs (cxOf CX0 P w K mg base N_links_of "links_of" (defScope s_links_of) (He.ga K "links_of") cdv A outer s H E).nox (defBody s_links_of) t ∧ t { nx := fun _ H' => Q .non H', rt := Q } (start N_links_of vs) H) : Cal P w K mg base 7 "links_of" sp := by
  obtain ⟨fd, F⟩ := T.fn 3 rfl
  have b : Binds K fd ["log"] [] := F.binds fun _ _ _ _ _ _ us hl => match us, hl with | [_], _ => rfl
  exact ⟨_, fd, _, F.ok sc_links_of len hb, T.glo 3 rfl, F.kp, b⟩
def sp_links_of (K : PySem.W.Frag) : Sp := mkSp (aLog K) (rL (rT2 rN rN)) (fun L y => IsLks L y)
theorem ln_links_of {K : PySem.W.Frag} : ∀ vs H Q E, sp_links_of K vs H Q E → vs.length = 1 := by
  rintro vs H Q E ⟨G, i, e, h, _⟩
  have h : (aLog K) i G vs := h
  obtain ⟨_, v, rfl, _⟩ := h; rfl
theorem ok_links_of (T : Tx K mg) : Cal P w K mg base 7 "links_of" (sp_links_of K) := mk_links_of T ln_links_of (fun cdv A outer s H vs Q E hr h => by
  have hu := hu_of hr
  have nd := sc_links_of.nd
  obtain ⟨G, i, e, ha, q⟩ := h
  refine ⟨_, pss_cons (ps_set (i := 1) nd rfl (Or.inl rfl) (pe_lst (pa_nil)))
      (pss_cons (ps_for PassesOwn.never rfl (k_iList (K := K) rfl (pe_p (ok_Log_judges T) hr (pv 0))) (pg_tup rfl (pgs_cons (pg_name (i := 2) nd rfl (Or.inl rfl)) (pgs_cons (pg_name (i := 3) nd rfl (Or.inl rfl)) pgs_nil))) (pss_one (ps_for PassesOwn.never rfl (k_iList (K := K) rfl (pe_m (ok_Log_stretches T) hr (pv 0) (pa_cons (pv 2) pa_nil))) (pg_name (i := 4) nd rfl (Or.inl rfl)) (pss_one (ps_aug (i := 1) nd rfl (Or.inl rfl) (pe_c (ok_links_in T) hr (pa_cons (pv 0) (pa_cons (pv 3) (pa_cons (pv 4) pa_nil)))) ip_ext)))))
      (pss_one (ps_ret (pe_callB (k_sortedP (K := K) rfl) (by rfl) (T.free 78 rfl) (by decide +kernel) (pa_cons (pv 1) pa_nil))))), ?_⟩
  obtain ⟨W, v, rfl, hv⟩ := ha
  refine q_newL e fun l H2 n2 own2 => ?_
  refine q_for (ei_list (R := rJ) (P := fun xs => xs = i.judges) (ev_lp W (ev_var rfl hv) "judges" (by intros; rfl))) n2.s (fun xs G3 H3 hx n3 => ?_)
  subst hx
  refine ⟨fun k σ' G' H' => Nxt G H G' H' ∧ (∃ a b c, σ' = [some v, some (.ref l), a, b, c]) ∧ ∃ us ys, Own H G' H' l (.lst us) ∧ Pd ((rT2 rN rN).is G') us ys ∧ ys.length ≤ k * 13824 ∧ ∀ a b, (a, b) ∈ ys ↔ ∃ z ∈ i.judges.take k, LinkJ i z a b, ⟨n2.trans n3, ⟨_, _, _, rfl⟩, [], [], own2.nxt n3, .nil, by simp, by simp⟩, ?_, ?_⟩
  · rintro k x σ' G' H' hx e1 e2 ⟨nn, ⟨a, b, c, rfl⟩, us, ys, own, pu, hlen, hmem⟩ w1 G4 H4 n4 ⟨t, v1, v2, rfl, ht, h1, h2⟩
    have hk : k < i.judges.length := (List.getElem?_eq_some_iff.mp hx).1
    have hk3 := W.jlen
    have hxj : x.1 ∈ i.judges.map (·.1) := List.mem_map.mpr ⟨x, List.mem_of_getElem? hx, rfl⟩
    refine tg_tup2 ht tg_name tg_name H4 n4.s _ ?_
    refine s_for (ei_list (R := rL rN) (P := fun ss => IsSts i x.1 ss) (ev_lmJ W hxj (ev_var rfl ((rLog K).ex (nn.g.trans n4.g) hv)) (ev_var rfl h1))) n4.s (fun ss G5 H5 hss n5 => ?_)
    refine ⟨fun j σ' G' H' => Nxt G H G' H' ∧ (∃ c, σ' = [some v, some (.ref l), some v1, some v2, c]) ∧ ∃ us ys, Own H G' H' l (.lst us) ∧ Pd ((rT2 rN rN).is G') us ys ∧ ys.length ≤ k * 13824 + j * 576 ∧ ∀ a b, (a, b) ∈ ys ↔ (∃ z ∈ i.judges.take k, LinkJ i z a b) ∨ inSts i x.2 (ss.take j) a b,
      ⟨(nn.trans n4).trans n5, ⟨_, rfl⟩, us, ys, (own.nxt n4).nxt n5, pd_mono (fun _ _ => (rT2 rN rN).ex (n4.g.trans n5.g)) pu, by omega, fun a b => by rw [hmem]; simp [inSts]⟩, ?_, ?_⟩
    · rintro j s σ' G' H' hs e3 e4 ⟨nn2, ⟨c, rfl⟩, us, ys, own, pu, hlen, hmem⟩ w2 G6 H6 n6 r6
      have hj : j < ss.length := (List.getElem?_eq_some_iff.mp hs).1
      have hss3 := hss.len
      obtain ⟨s1, s2, p0, hp0, s3⟩ := hss.each s (List.mem_of_getElem? hs)
      have pu6 := pd_mono (fun _ _ => (rT2 rN rN).ex n6.g) pu
      have hlin : (linksIn i x.2 s).length ≤ 576 := by
        have h2 := len_flat (n := 24) (fun a => Nat.le_trans (len_rowL (L := i) (d := x.2) (st := s) (a := a)) s2) s
        have : s.length * 24 ≤ 24 * 24 := Nat.mul_le_mul_right _ s2
        unfold linksIn
        omega
      refine s_ext (own.nxt n6) rfl (R := rT2 rN rN) (PA := fun y => y = linksIn i x.2 s) (ev_call3 (R := rLog K) (S := rDf) (T := rL rN) (ev_var rfl ((rLog K).ex (nn2.g.trans n6.g) hv)) (ev_var rfl h2) (ev_var rfl r6) fun G7 a1 b1 a2 b2 a3 b3 e7 q1 p1 q2 p2 q3 p3 => ?_) n6.s (fun y hy => ?_) fun vs G8 H8 y n8 pv p8 own8 => ?_
      · subst p1 p2 p3
        have q2' : a2 = .str (dStr x.2) := q2
        subst q2'
        exact mkSp_use (args := aLin K) (b1, x.2, b3) ⟨W, ⟨fun p hp => (ansOf_iff.mp ((s3 p).mp hp).1).1, s2, s1.imp (fun h => by omega)⟩, a1, a3, rfl, q1, q3⟩
      · subst hy
        have := pd_len pu6
        omega
      · subst p8
        refine ⟨G8, (e3.trans n6.g).trans n8.g, n8.s.mut own8.g, ((nn2.trans n6).trans n8).mut own.s own8.g, ⟨_, rfl⟩, us ++ vs, ys ++ linksIn i x.2 s, own8, pd_app (pd_mono (fun _ _ => (rT2 rN rN).ex n8.g) pu6) pv, ?_, fun a b => ?_⟩
        · rw [List.length_append]; omega
        · rw [List.mem_append, hmem, mem_linksIn, List.take_add_one, hs]
          constructor
          · rintro ((h | ⟨s', h5, h6⟩) | h)
            · exact .inl h
            · exact .inr ⟨s', List.mem_append_left _ h5, h6⟩
            · exact .inr ⟨s, List.mem_append_right _ (List.mem_singleton.mpr rfl), h⟩
          · rintro (h | ⟨s', h5, h6⟩)
            · exact .inl (.inl h)
            · rcases List.mem_append.mp h5 with h5 | h5
              · exact .inl (.inr ⟨s', h5, h6⟩)
              · rw [List.mem_singleton.mp h5] at h6
                exact .inr h6
    · rintro σ' G' H' e3 e4 ⟨nn2, ⟨c, rfl⟩, us, ys, own, pu, hlen, hmem⟩
      rw [List.take_length] at hmem
      have hss3 := hss.len
      refine ⟨G', (e1.trans n4.g).trans (n5.g.trans e3), e4, nn2, ⟨_, _, _, rfl⟩, us, ys, own, pu, by omega, fun a b => ?_⟩
      rw [hmem, List.take_add_one, hx, inSts_iff hss]
      constructor
      · rintro (⟨z, h1, h2⟩ | h)
        · exact ⟨z, List.mem_append_left _ h1, h2⟩
        · exact ⟨x, List.mem_append_right _ (List.mem_singleton.mpr rfl), h⟩
      · rintro ⟨z, h1, h2⟩
        rcases List.mem_append.mp h1 with h1 | h1
        · exact .inl ⟨z, h1, h2⟩
        · rw [List.mem_singleton.mp h1] at h2
          exact .inr h2
  · rintro σ' G' H' e1 e2 ⟨nn, ⟨a, b, c, rfl⟩, us, ys, own, pu, hlen, hmem⟩
    rw [List.take_length] at hmem
    have hk3 := W.jlen
    refine s_retP (ev_sortedP (P := fun x => x = ys) (ev_var rfl (own_list own pu e2))) (own.told e2) fun u5 G5 H5 x n5 r5 hx => ?_
    obtain ⟨zs, rfl, hp⟩ := hx
    refine q u5 G5 H5 x ((nn.tell own.s own.h own.g).trans n5) r5 ⟨fun a b => ?_, ?_⟩
    · rw [hp.mem_iff, hmem]
    · rw [hp.length_eq]; omega)
abbrev N_ends_of : List Str := ["log", "items", "place", "first", "second"]
theorem sc_ends_of : FnScope N_ends_of ["log"] (defScope s_ends_of) := ⟨rfl, rfl, rfl, by decide +kernel, rfl, by decide +kernel, by decide +kernel⟩
theorem mk_ends_of (T : Tx K mg) {sp : Sp} (len : ∀ vs H Q E, sp vs H Q E → vs.length = 1)
    (hb : ∀ (cdv : Value) (A : Around) (outer : List Env) (s : Shared) (H : Hp) (vs : List V) (Q : VK) (E : XK), Room 7 (A.deeper (envOfC "ends_of" (defScope s_ends_of) s.heap.objs.size (He.ga K "ends_of") cdv)) → sp vs H Q E →
      ∃ t, PSs (cxOf CX0 P w K mg base N_ends_of "ends_of" (defScope s_ends_of) (He.ga K "ends_of") cdv A outer s H E).nox (defBody s_ends_of) t ∧ t { nx := fun _ H' => Q .non H', rt := Q } (start N_ends_of vs) H) : Cal P w K mg base 8 "ends_of" sp := by
  obtain ⟨fd, F⟩ := T.fn 4 rfl
  have b : Binds K fd ["log"] [] := F.binds fun _ _ _ _ _ _ us hl => match us, hl with | [_], _ => rfl
  exact ⟨_, fd, _, F.ok sc_ends_of len hb, T.glo 4 rfl, F.kp, b⟩
def sp_ends_of (K : PySem.W.Frag) : Sp := mkSp (aLog K) (rL (rT3 (rT2 rN rN) rS rS)) (fun L y => IsEnds L y)
theorem ln_ends_of {K : PySem.W.Frag} : ∀ vs H Q E, sp_ends_of K vs H Q E → vs.length = 1 := by
  rintro vs H Q E ⟨G, i, e, h, _⟩
  have h : (aLog K) i G vs := h
  obtain ⟨_, v, rfl, _⟩ := h; rfl
theorem ok_ends_of (T : Tx K mg) : Cal P w K mg base 8 "ends_of" (sp_ends_of K) := mk_ends_of T ln_ends_of (fun cdv A outer s H vs Q E hr h => by
  have hu := hu_of hr
  have nd := sc_ends_of.nd
  obtain ⟨G, i, e, ha, q⟩ := h
  refine ⟨_, pss_cons (ps_set (i := 1) nd rfl (Or.inr rfl) (pe_dc (own := [("place", 2)]) (g := (gName 2)) (tt := tYes) rfl nd (k_iList (K := K) rfl (pe_m00 (ok_Log_answers T) hr (pv 0))) (blkOk_by (by kernel_rfl)) (fun _ _ _ _ _ => pg_name (i := 2) nd rfl (by first | exact Or.inl rfl | exact Or.inr rfl)) (fun _ _ _ _ _ => pts_nil) (fun _ _ _ _ _ => pv 2) (fun _ _ _ _ _ => pe_m (ok_Log_item_at T) hr (pv 0) (pa_cons (pv 2) pa_nil))))
      (pss_one (ps_ret (pe_lc (own := [("first", 3), ("second", 4)]) (g := (gTup K 2 (gCons (gName 3) (gCons (gName 4) gNil)))) (tt := tYes) rfl nd (k_iList (K := K) rfl (pe_c (ok_links_of T) hr (pa_cons (pv 0) pa_nil))) (blkOk_by (by kernel_rfl)) (fun _ _ _ _ _ => pg_tup rfl (pgs_cons (pg_name (i := 3) nd rfl (by first | exact Or.inl rfl | exact Or.inr rfl)) (pgs_cons (pg_name (i := 4) nd rfl (by first | exact Or.inl rfl | exact Or.inr rfl)) pgs_nil))) (fun _ _ _ _ _ => pts_nil) (fun _ _ _ _ _ => pe_tup (pa_cons (pe_tup (pa_cons (pv 3) (pa_cons (pv 4) pa_nil))) (pa_cons (pe_dget hu (pv 1) (pv 3) (fun _ _ => rfl)) (pa_cons (pe_dget hu (pv 1) (pv 4) (fun _ _ => rfl)) pa_nil))))))), ?_⟩
  obtain ⟨W, v, rfl, hv⟩ := ha
  have hl := W.elen
  have hal := ansL_len (L := i)
  refine q_asg (R := rD kN rS) (ev_dcM (R := rN) (RK := rN) (xs := ansL i) (ky := fun p => p) (f := itOf i) inj_N key_N (ei_list (ev_lm0 W (ev_var rfl hv))) (by omega) (by rw [List.map_id']; exact ansL_nodup) fun x hx G2 u e2 r => ?_) e fun u1 G1 H1 n1 r1 => ?_
  · cases r
    exact ⟨_, tg_name, rfl, ev_var rfl rfl, ev_lmP W (mem_ansL.mp hx) (ev_var rfl ((rLog K).ex e2 hv)) (ev_var rfl rfl)⟩
  have hlook : ∀ p, isAns i p = true → look ((ansL i).map fun x => (x, itOf i x)) p = some (itOf i p) := fun p hp => look_of_mem (by rw [List.map_map]; exact (List.map_id' (ansL i)).symm ▸ ansL_nodup) (List.mem_map.mpr ⟨p, mem_ansL.mpr hp, rfl⟩)
  refine s_retP (ev_lc (R := rT2 rN rN) (S := rT3 (rT2 rN rN) rS rS) (p := fun _ => true) (F := fun x y => y = (x, itOf i x.1, itOf i x.2)) (ei_list (P := fun y => IsLks i y) (ev_lc0 W (ev_var rfl ((rLog K).ex n1.g hv)))) fun xs hxs => ⟨by have := hxs.len; omega, fun x hx G2 u e2 r => ?_⟩) n1.s fun u5 G5 H5 y n5 r5 hy => q u5 G5 H5 y (n1.trans n5) r5 ?_
  · obtain ⟨t, v1, v2, rfl, ht, h1, h2⟩ := r
    obtain ⟨z, hz, l1, l2, _⟩ := (hxs.mem x.1 x.2).mp hx
    have hd := rD_r ((rD kN rS).ex e2 r1)
    refine ⟨_, tg_tup2 ht tg_name tg_name, rfl, et_yes, fun _ => (ev_tup3 (ev_tup2D (ev_var rfl h1) (ev_var rfl h2)) (ev_dget (RK := rN) inj_N key_N (ev_var rfl hd) (ev_var rfl h1) (hlook x.1 (ansOf_iff.mp l1).1)) (ev_dget (RK := rN) inj_N key_N (ev_var rfl hd) (ev_var rfl h2) (hlook x.2 (ansOf_iff.mp l2).1))).imp fun y hy => ?_⟩
    obtain ⟨a, b, c⟩ := y
    obtain ⟨rfl, rfl, rfl⟩ := hy
    rfl
  · obtain ⟨xs, hxs, hp⟩ := hy
    rw [List.filter_eq_self.mpr (fun _ _ => rfl)] at hp
    have hp := pd_eq_map hp
    subst hp
    refine ⟨fun a b x z => ?_, by rw [List.length_map]; exact hxs.len⟩
    rw [List.mem_map, linkJ_iff]
    constructor
    · rintro ⟨k, hk, e⟩
      obtain ⟨k1, k2⟩ := k
      cases e
      exact ⟨(hxs.mem _ _).mp hk, rfl, rfl⟩
    · rintro ⟨h1, rfl, rfl⟩
      exact ⟨(a, b), (hxs.mem a b).mpr h1, rfl⟩)
end
end FW
/-! More readings: while, pop, new dicts and lists of ours with something in them. -/
namespace FW
open PySem PySem.Spec PyProof.Rows L2 Hd
section
variable {κ α β γ : Type} [DecidableEq κ] {R : Rp α} {S : Rp β} {RK : Rp κ} {σ : L2.St} {Hs G H G2 H2 : Hp} {te ta ty tv tk : TE} {t tt : TT} {K : PySem.W.Frag} {D : Ends} {tu tw u : TS} {g : TG} {l : Addr} {o : HO}
theorem ent_ex {τ : Type} {kf : κ → τ} {us : List (τ × V)} {ys : List (κ × α)} (e : Ex G G2) (h : Pd (Ent kf R G) us ys) : Pd (Ent kf R G2) us ys := pd_mono (fun _ _ h => ⟨h.1, R.ex e h.2⟩) h
/-- while -/
theorem q_while {Pv : Nat → L2.St → Hp → Hp → Prop} {m0 : Nat} (e : Ex G H) (h0 : Pv m0 σ G H)
    (step : ∀ m σ' G' H', Ex G G' → Ex G' H' → Pv m σ' G' H' → t σ' H' fun b H1 => if b = true then ∃ N : L2.St → Hp → Prop, (∀ σ3 H4, N σ3 H4 → ∃ m', m' < m ∧ ∃ G4, Ex G G4 ∧ Ex G4 H4 ∧ Pv m' σ3 G4 H4) ∧ tu { D with nx := N, ct := N, bk := u D } σ' H1 else u D σ' H1) :
    tSeq (tWhile t tu) u D σ H :=
  ⟨fun m σ' H' => ∃ G', Ex G G' ∧ Ex G' H' ∧ Pv m σ' G' H', ⟨m0, G, Ex.refl _, e, h0⟩, fun m σ' H' ⟨G', e1, e2, p⟩ => step m σ' G' H' e1 e2 p⟩
/-- a test that reads an object of ours, any test -/
theorem et_own {b : Bool} (own : Own Hs G H l o) (h : EvT t σ (upd G l o) b) (e : Ex G H) {Q : Bool → Hp → Prop} (q : ∀ G2 H2, Nxt G H G2 H2 → Own Hs G2 H2 l o → Q b H2) : t σ H Q :=
  h H (own.told e) _ fun G2 H2 n => by
  obtain ⟨n', own'⟩ := nxt_untell own n
  exact q _ H2 n' own'
/-- l.pop(0) -/
theorem q_pop0 {v : V} {r : List V} {i i2 : Nat} (own : Own Hs G H l (.lst (v :: r))) (hi : σ[i]? = some (some (.ref l))) (k : Own Hs G (upd H l (.lst r)) l (.lst r) → u D (σ.set i2 (some v)) (upd H l (.lst r))) :
    tSeq (tAsg (tBM K "list" rPopAt (tVar i) (tCons (tC (.int 0)) tNil)) (gName i2)) u D σ H := ⟨.ref l, hi, .inl ⟨rfl, _, SqL.of own.h⟩,
  l, _, 0, 0, v, rfl, rfl, own.h, by decide, by decide, by
    have h1 : (0 : Int) < ((v :: r).length : Int) := by rw [List.length_cons]; omega
    simp [seqIndex?, h1], rfl, k own.set⟩
/-- [e], {e: f}: a new object of ours -/
theorem q_newL1 {i : Nat} {PA : α → Prop} (h : EvP R ta σ G PA) (e : Ex G H) (k : ∀ l v G2 H2 x, Nxt G H G2 H2 → R.is G2 v x → PA x → Own H G2 H2 l (.lst [v]) → u D (σ.set i (some (.ref l))) H2) : tSeq (tAsg (tLst (tCons ta tNil)) (gName i)) u D σ H :=
  h H e _ fun v G2 H2 x n r p => ⟨by show 1 ≤ sizeLine; decide, fun l hl => k l v G2 _ x (n.mut (n.h.free hl) (n.s.free hl)) r p ⟨n.h.free hl, n.s.free hl, upd_same⟩⟩
theorem q_disp1 {i : Nat} {kf : κ → Key} {x : κ} {PA : α → Prop} (hkr : KeyR RK kf) (hk : EvD RK tk σ G x) (h : EvP R tv σ G PA) (e : Ex G H) (k : ∀ l v G2 H2 y, Nxt G H G2 H2 → R.is G2 v y → PA y → Own H G2 H2 l (.dK [(kf x, v)]) → u D (σ.set i (some (.ref l))) H2) : tSeq (tAsg (tDisp [(tk, tv)]) (gName i)) u D σ H := fun p hp => by
  have own0 : Own H G (upd H p (.dK [])) p (.dK []) := ⟨hp, e.free hp, upd_same⟩
  have n0 := (Nxt.refl e).mut (o := .dK []) hp (e.free hp)
  refine hk _ n0.s _ fun v1 G2 H2 y n1 r1 p1 => ?_
  subst p1
  refine h.mono n1.g H2 n1.s _ fun v2 G3 H3 z n2 r2 p2 => ?_
  have own3 := (own0.nxt n1).nxt n2
  refine ⟨own3.h, [(kf y, v2)], ?_, by show 1 ≤ 15; decide, ?_⟩
  · rw [hkr _ _ _ r1]; rfl
  · exact k p v2 G3 _ z (((n0.trans n1).trans n2).mut hp own3.g) r2 p2 own3.set
/-- a new dict by a comprehension, ours -/
def EvK (kf : κ → Key) (S : Rp β) (te : TE) (σ : L2.St) (G : Hp) (P : List (κ × β) → Prop) : Prop := ∀ H, Ex G H → ∀ Q : VK, (∀ l us ys G2 H2, Nxt G H G2 H2 → Own H G2 H2 l (.dK us) → Pd (Ent kf S G2) us ys → P ys → Q (.ref l) H2) → te σ H Q
theorem ev_dcO {kf : κ → Key} {wi : TI} {g : TG} {vs : List Nat} {PX : List α → Prop} {p : α → Bool} {ky : α → κ} {F : α → β → Prop} (inj : ∀ a b, kf a = kf b → a = b) (hkr : KeyR RK kf) (hi : EvI R wi σ G PX)
    (hb : ∀ xs, PX xs → xs.length ≤ 100000 ∧ (xs.map ky).Nodup ∧ ∀ x, x ∈ xs → ∀ G2 v, Ex G G2 → R.is G2 v x → ∃ σ2, Tg g v (wipe σ vs) G2 σ2 ∧ wipe σ2 vs = wipe σ vs ∧ EvT tt σ2 G2 (p x) ∧ (p x = true → EvD RK tk σ2 G2 (ky x) ∧ EvP S tv σ2 G2 (F x))) :
    EvK kf S (tDc wi g tt tk tv vs) σ G (fun ys => ∃ xs, PX xs ∧ Pd (fun x y => y.1 = ky x ∧ F x y.2) (xs.filter p) ys) := fun H e Q q => hi H e _ fun J G1 H1 xs n1 px w D hD => by
  obtain ⟨hl, nd, hb⟩ := hb xs px
  have nm := Nxt.mut (o := .dK []) n1 (n1.h.free hD) (n1.s.free hD)
  refine ⟨fun i m H' => m = xs.length - i ∧ i ≤ xs.length ∧ ∃ (G' : Hp) (us : List (Key × V)) (ys : List (κ × β)), Nxt G H G' H' ∧ Ex G1 G' ∧ Own H G' H' D (.dK us) ∧ Pd (Ent kf S G') us ys ∧ Pd (fun x y => y.1 = ky x ∧ F x y.2) ((xs.take i).filter p) ys,
    ⟨xs.length, by simp, Nat.zero_le _, G1, [], [], nm, Ex.refl _, ⟨n1.h.free hD, n1.s.free hD, upd_same⟩, .nil, .nil⟩, ?_⟩
  rintro i m H' ⟨rfl, hi', G', us, ys, n, e1, own, pu, pf⟩
  by_cases hlt : i < xs.length
  · obtain ⟨hgo, hy⟩ := w.2 i _ (List.getElem?_eq_getElem hlt) H' G' e1 n.s
    refine .inr ⟨hgo, _, fun H'' z => ⟨xs.length - (i + 1), by omega, rfl, hlt, z⟩, fun v H'' hv => ?_⟩
    obtain ⟨G2, n2, rv⟩ := hy v H'' hv
    have nn := n.trans n2
    have own2 := own.nxt n2
    obtain ⟨σ2, hg, hw, ht, he⟩ := hb xs[i] (List.getElem_mem hlt) G2 v nn.g rv
    refine hg H'' n2.s _ ⟨hw, ht H'' n2.s _ fun G3 H3 n3 => ?_⟩
    have own3 := own2.nxt n3
    have et : (xs.take (i + 1)).filter p = (xs.take i).filter p ++ [xs[i]].filter p := by
      rw [List.take_add_one, List.getElem?_eq_getElem hlt, List.filter_append]; rfl
    cases hp : p xs[i] with
    | true =>
      rw [if_pos rfl]
      obtain ⟨hk, hv⟩ := he hp
      refine hk.mono n3.g H3 n3.s _ fun y G4 H4 z n4 rz fz => ?_
      subst fz
      refine hv.mono (n3.g.trans n4.g) H4 n4.s _ fun y2 G5 H5 z2 n5 rz2 fz2 => ?_
      have own5 := (own3.nxt n4).nxt n5
      have hnew : kf (ky xs[i]) ∉ us.map (·.1) := fun hm => by
        obtain ⟨u, hu, eu⟩ := List.mem_map.mp hm
        obtain ⟨z, hz, ez, _⟩ := pd_mem pu hu
        have hz2 : ∃ x, x ∈ (xs.take i).filter p ∧ z.1 = ky x := by
          obtain ⟨j, hj⟩ := List.mem_iff_getElem?.mp hz
          obtain ⟨x, hx, ex, _⟩ := pd_get pf hj
          exact ⟨x, List.mem_of_getElem? hx, ex⟩
        obtain ⟨x, hx, ex⟩ := hz2
        have hx2 : x ∈ xs.take i := (List.mem_filter.mp hx).1
        have e1 : ky x = ky xs[i] := inj _ _ (by rw [← ex, ← ez, eu])
        obtain ⟨j, hj⟩ := List.mem_iff_getElem?.mp hx2
        rw [List.getElem?_take] at hj
        by_cases hji : j < i
        · rw [if_pos hji] at hj
          have h1 : (xs.map ky)[j]? = some (ky x) := by rw [List.getElem?_map, hj]; rfl
          have h2 : (xs.map ky)[i]? = some (ky xs[i]) := by rw [List.getElem?_map, List.getElem?_eq_getElem hlt]; rfl
          have := (List.getElem?_inj (by rw [List.length_map]; omega) nd).mp (h1.trans (by rw [h2, e1]))
          omega
        · rw [if_neg hji] at hj; cases hj
      refine ⟨us, kf (ky xs[i]), hkr _ _ _ rz, own5.h, ?_, G5, us ++ [(kf (ky xs[i]), y2)], ys ++ [(ky xs[i], z2)], ?_, (e1.trans n2.g).trans (n3.g.trans (n4.g.trans n5.g)), ?_, pd_snoc (pd_mono (fun _ _ h => ⟨h.1, S.ex (n2.g.trans (n3.g.trans (n4.g.trans n5.g))) h.2⟩) pu) ⟨rfl, rz2⟩, ?_⟩
      · have h1 := pd_len pu
        have h2 := pd_len pf
        have h3 := List.length_filter_le p (xs.take i)
        rw [List.length_take] at h3
        have : (100000 : Nat) < sizeLine := by decide
        omega
      · rw [putK_fresh hnew]
        exact (((nn.trans n3).trans n4).trans n5).mut own.s own5.g
      · rw [putK_fresh hnew]
        exact own5.set
      · rw [et, List.filter_cons, if_pos hp, List.filter_nil]
        exact pd_snoc pf ⟨rfl, fz2⟩
    | false =>
      rw [if_neg Bool.false_ne_true]
      refine ⟨G3, us, ys, nn.trans n3, (e1.trans n2.g).trans n3.g, own3, pd_mono (fun _ _ h => ⟨h.1, S.ex (n2.g.trans n3.g) h.2⟩) pu, ?_⟩
      rw [et, List.filter_cons, if_neg (by rw [hp]; exact Bool.false_ne_true), List.filter_nil, List.append_nil]
      exact pf
  · refine .inl ⟨w.1 i H' (e1.trans n.s) (by omega), ?_⟩
    rw [List.take_of_length_le (by omega)] at pf
    exact q D us ys G' H' n own pu ⟨xs, px, pf⟩
theorem q_dcO {i : Nat} {kf : κ → Key} {P : List (κ × β) → Prop} (h : EvK kf S te σ G P) (e : Ex G H) (k : ∀ l us ys G2 H2, Nxt G H G2 H2 → Own H G2 H2 l (.dK us) → Pd (Ent kf S G2) us ys → P ys → u D (σ.set i (some (.ref l))) H2) : tSeq (tAsg te (gName i)) u D σ H := h H e _ k
/-- min, max with default= over ints -/
theorem ev_minDI {δ : Type} {tb : TE} {P : List Int → Prop} {U : Rp δ} {PD : δ → Prop} {PZ : δ → Prop} (h : EvP (rL FW.rI) ta σ G P) (hd : EvP U tb σ G PD) (h0 : ∀ d, PD d → P [] → PZ d) (h1 : ∀ ns m, P ns → m ∈ ns → (∀ y ∈ ns, m ≤ y) → ∃ d, (∀ G, U.is G (.int m) d) ∧ PZ d) :
    EvP U (tCKw (rMinD K) (tCons ta tNil) (tCons tb tNil)) σ G PZ := fun H e Q q =>
  h H e _ fun v G2 H2 x n r p => hd.mono n.g H2 n.s _ fun w G3 H3 d n2 r2 p2 => by
    obtain ⟨a, vs, rfl, ha, hp⟩ := (rL FW.rI).ex n2.g r
    refine ⟨a, x, w, rfl, rfl, SqL.of (by rw [← pd_ints hp]; exact n2.s a _ ha), fun e0 => ?_, fun m hm hy => ?_⟩
    · subst e0
      exact q w G3 H3 d (n.trans n2) r2 (h0 d p2 p)
    · obtain ⟨d', hd', z⟩ := h1 x m p hm hy
      exact q _ G3 H3 d' (n.trans n2) (hd' _) z
theorem ev_maxDI {δ : Type} {tb : TE} {P : List Int → Prop} {U : Rp δ} {PD : δ → Prop} {PZ : δ → Prop} (h : EvP (rL FW.rI) ta σ G P) (hd : EvP U tb σ G PD) (h0 : ∀ d, PD d → P [] → PZ d) (h1 : ∀ ns m, P ns → m ∈ ns → (∀ y ∈ ns, y ≤ m) → ∃ d, (∀ G, U.is G (.int m) d) ∧ PZ d) :
    EvP U (tCKw (rMaxD K) (tCons ta tNil) (tCons tb tNil)) σ G PZ := fun H e Q q =>
  h H e _ fun v G2 H2 x n r p => hd.mono n.g H2 n.s _ fun w G3 H3 d n2 r2 p2 => by
    obtain ⟨a, vs, rfl, ha, hp⟩ := (rL FW.rI).ex n2.g r
    refine ⟨a, x, w, rfl, rfl, SqL.of (by rw [← pd_ints hp]; exact n2.s a _ ha), fun e0 => ?_, fun m hm hy => ?_⟩
    · subst e0
      exact q w G3 H3 d (n.trans n2) r2 (h0 d p2 p)
    · obtain ⟨d', hd', z⟩ := h1 x m p hm hy
      exact q _ G3 H3 d' (n.trans n2) (hd' _) z
/-- d.get(k), values that are not None -/
theorem ev_dget1 {td : TE} {kf : κ → Key} {xs : List (κ × α)} {k : κ} (nn : ∀ G v x, R.is G v x → v ≠ .non) (inj : ∀ a b, kf a = kf b → a = b) (hk : KeyR RK kf) (hd : EvD (rD kf R) td σ G xs) (hy : EvD RK ty σ G k) : EvD (rO R) (tDGet1 td ty) σ G (look xs k) := fun H e Q q =>
  hd H e _ fun v G2 H2 ys n r p => by
    subst p
    obtain ⟨a, kvs, rfl, ha, hp⟩ := r
    refine ⟨a, rfl, .inl ⟨kvs, .inl (n.s a _ ha)⟩, hy.mono n.g H2 n.s _ fun w G3 H3 j n2 r2 p2 => ?_⟩
    subst p2
    have hp3 := ent_ex n2.g hp
    refine ⟨_, .inl ⟨kvs, kf j, .inl (n2.s a _ (n2.g a _ ha)), hk _ _ _ r2, rfl⟩, ?_⟩
    rcases pd_look inj j hp3 with ⟨z, zu⟩ | ⟨y, u, z, zu, ru⟩
    · rw [zu]
      exact q _ G3 H3 none (n.trans n2) rfl z.symm
    · rw [zu]
      exact q _ G3 H3 (some y) (n.trans n2) ⟨nn _ _ _ ru, ru⟩ z.symm
theorem ev_eqOI {tb : TE} {x : Option Int} {m : Int} (ha : EvD (rO FW.rI) ta σ G x) (hb : EvD FW.rI tb σ G m) : EvD rB (tOp rEq ta tb) σ G (decide (x = some m)) := ev_op ha hb fun G2 v z w y e r1 p1 r2 p2 H e2 Q q => by
  subst p1 p2
  cases r2
  cases z with
  | none =>
    have r1 : v = .non := r1
    subst r1
    refine ⟨rfl, q _ G2 H _ (Nxt.refl e2) rfl ?_⟩
    rw [decide_eq_false (show ¬ ((none : Option Int) = some y) by exact nofun)]
    exact decide_eq_false (show ¬ (V.non = V.int y) by exact nofun)
  | some z =>
    obtain ⟨_, r1⟩ := r1
    cases r1
    refine ⟨rfl, q _ G2 H _ (Nxt.refl e2) rfl ?_⟩
    by_cases h : z = y
    · subst h; rw [decide_eq_true rfl, decide_eq_true rfl]
    · rw [decide_eq_false (fun c => h (Option.some.inj c)), decide_eq_false fun c => h (V.int.inj c)]
/-- i -= e -/
theorem s_subI {i : Nat} {x y : Int} (hi : σ[i]? = some (some (.int x))) (h : EvD FW.rI te σ G y) (e : Ex G H) (k : ∀ G2 H2, Nxt G H G2 H2 → D.nx (σ.set i (some (.int (x - y)))) H2) : tAug i te (ipI fun i j => i - j) D σ H := ⟨_, hi, h H e _ fun v G2 H2 z n r p => by
  subst p; cases r
  exact ⟨x, z, rfl, rfl, k G2 H2 n⟩⟩
theorem s_addI {i : Nat} {x y : Int} (hi : σ[i]? = some (some (.int x))) (h : EvD FW.rI te σ G y) (e : Ex G H) (k : ∀ G2 H2, Nxt G H G2 H2 → D.nx (σ.set i (some (.int (x + y)))) H2) : tAug i te (ipI fun i j => i + j) D σ H := ⟨_, hi, h H e _ fun v G2 H2 z n r p => by
  subst p; cases r
  exact ⟨x, z, rfl, rfl, k G2 H2 n⟩⟩
end
end FW
/-! check_items, lengths_to, first_way, way_between. -/
namespace FW
open PySem PySem.Spec PyProof.Rows L2 Hd
abbrev rEnd : Rp ((Nat × Nat) × Str × Str) := rT3 (rT2 rN rN) rS rS
abbrev Ends3 := List ((Nat × Nat) × Str × Str)
abbrev aChk (K : PySem.W.Frag) : Log × List Str → Hp → List V → Prop := fun i G vs => WfL i.1 ∧ (∀ x ∈ i.2, x ∈ i.1.items) ∧ ∃ v w, vs = [v, w] ∧ (rLog K).is G v i.1 ∧ (rL rS).is G w i.2
abbrev aLen : Ends3 × Str → Hp → List V → Prop := fun i G vs => i.1.length ≤ 50000 ∧ ∃ v, vs = [v, .str i.2] ∧ (rL rEnd).is G v i.1
abbrev aWay : Ends3 × Str × Str → Hp → List V → Prop := fun i G vs => i.1.length ≤ 50000 ∧ ∃ v, vs = [v, .str i.2.1, .str i.2.2] ∧ (rL rEnd).is G v i.1
abbrev aWayB (K : PySem.W.Frag) : Log × Str × Str → Hp → List V → Prop := fun i G vs => WfL i.1 ∧ (i.2.1 ∈ i.1.items ∧ i.2.2 ∈ i.1.items) ∧ ∃ v, vs = [v, .str i.2.1, .str i.2.2] ∧ (rLog K).is G v i.1
def EdR (es : Ends3) (x y : Str) : Prop := ∃ l, (l, x, y) ∈ es
structure IsLen (es : Ends3) (b : Str) (ys : List (Str × Int)) : Prop where
  zero : look ys b = some 0
  back : ∀ x n, look ys x = some n → 0 ≤ n ∧ (n = 0 → x = b) ∧ (0 < n → ∃ l e, (l, x, e) ∈ es ∧ look ys e = some (n - 1))
  closed : ∀ l x e, (l, x, e) ∈ es → look ys e ≠ none → look ys x ≠ none
  bnd : ∀ x n, look ys x = some n → n ≤ es.length
theorem IsLen.reach {es : Ends3} {b : Str} {ys : List (Str × Int)} (h : IsLen es b ys) : ∀ (k : Nat) (x : Str), look ys x = some (k : Int) → x = b ∨ Relation.TransGen (EdR es) x b
  | 0, x, e => .inl ((h.back x 0 e).2.1 rfl)
  | k + 1, x, e => by
    obtain ⟨l, y, h1, h2⟩ := (h.back x _ e).2.2 (by omega)
    have h2 : look ys y = some (k : Int) := by rw [h2]; congr 1; omega
    rcases h.reach k y h2 with rfl | t
    · exact .inr (.single ⟨l, h1⟩)
    · exact .inr (RB.tg_trans (.single ⟨l, h1⟩) t)
theorem IsLen.key_of {es : Ends3} {b : Str} {ys : List (Str × Int)} (h : IsLen es b ys) {x y : Str} (t : Relation.TransGen (EdR es) x y) (hy : look ys y ≠ none) : look ys x ≠ none := by
  induction t with
  | single a => obtain ⟨l, a⟩ := a; exact h.closed l _ _ a hy
  | tail _ a ih => obtain ⟨l, a⟩ := a; exact ih (h.closed l _ _ a hy)
def cntL (es : Ends3) (ys : List (Str × Int)) : Nat := ((es.map fun z => z.2.1).filter fun x => (look ys x).isNone).length
theorem filter_lt {α : Type} {p q : α → Bool} (h : ∀ x, q x = true → p x = true) : ∀ {xs : List α}, (∃ x ∈ xs, p x = true ∧ q x = false) → (xs.filter q).length < (xs.filter p).length
  | [], ⟨x, hx, _⟩ => by cases hx
  | a :: r, ⟨x, hx, h1, h2⟩ => by
    have le : ∀ r : List α, (r.filter q).length ≤ (r.filter p).length := fun r => by
      induction r with
      | nil => exact Nat.le_refl _
      | cons b r ih =>
        rw [List.filter_cons, List.filter_cons]
        cases hq : q b with
        | true => rw [if_pos rfl, if_pos (h b hq)]; exact Nat.succ_le_succ ih
        | false =>
          rw [if_neg Bool.false_ne_true]
          cases p b with
          | true => rw [if_pos rfl]; exact Nat.le_succ_of_le ih
          | false => rw [if_neg Bool.false_ne_true]; exact ih
    rw [List.filter_cons, List.filter_cons]
    rcases List.mem_cons.mp hx with rfl | hx
    · rw [if_neg (by rw [h2]; exact Bool.false_ne_true), if_pos h1]
      exact Nat.lt_succ_of_le (le r)
    · have ih := filter_lt h (xs := r) ⟨x, hx, h1, h2⟩
      cases hq : q a with
      | true => rw [if_pos rfl, if_pos (h a hq)]; exact Nat.succ_lt_succ ih
      | false =>
        rw [if_neg Bool.false_ne_true]
        cases p a with
        | true => rw [if_pos rfl]; exact Nat.lt_succ_of_lt ih
        | false => rw [if_neg Bool.false_ne_true]; exact ih
theorem cnt_put {es : Ends3} {ys : List (Str × Int)} {l : Nat × Nat} {x e : Str} {n : Int} (h : (l, x, e) ∈ es) (hn : look ys x = none) : cntL es (put ys x n) < cntL es ys := by
  refine filter_lt (fun y hy => ?_) ⟨x, List.mem_map.mpr ⟨_, h, rfl⟩, by rw [hn]; rfl, by rw [look_put, if_pos rfl]; rfl⟩
  rw [look_put] at hy
  by_cases z : y = x
  · rw [if_pos z] at hy; cases hy
  · rw [if_neg z] at hy; exact hy
/-- while the walk is under way: qs the queue, es' what of here is still to be seen -/
structure LenInv (es : Ends3) (b : Str) (ys : List (Str × Int)) (qs : List Str) (here : Option Str) (rest : Ends3) : Prop where
  zero : look ys b = some 0
  back : ∀ x n, look ys x = some n → 0 ≤ n ∧ (n = 0 → x = b) ∧ (0 < n → ∃ l e, (l, x, e) ∈ es ∧ look ys e = some (n - 1))
  inq : ∀ q ∈ qs, look ys q ≠ none
  closed : ∀ l x e, (l, x, e) ∈ es → look ys e ≠ none → e ∈ qs ∨ look ys x ≠ none ∨ (here = some e ∧ (l, x, e) ∈ rest)
  len : ys.length + cntL es ys ≤ es.length + 1
  bnd : ∀ x n, look ys x = some n → n < ys.length
theorem LenInv.add {es : Ends3} {b : Str} {ys : List (Str × Int)} {qs : List Str} {here : Str} {rest : Ends3} {l : Nat × Nat} {x : Str} {n : Int} (h : LenInv es b ys qs (some here) ((l, x, here) :: rest)) (hm : (l, x, here) ∈ es) (hx : look ys x = none) (hh : look ys here = some n) :
    LenInv es b (put ys x (n + 1)) (qs ++ [x]) (some here) rest := by
  have old : ∀ z m, look ys z = some m → look (put ys x (n + 1)) z = some m := fun z m hz => by
    rw [look_put, if_neg (fun e => by subst e; rw [hx] at hz; cases hz)]; exact hz
  have n0 := (h.back here n hh).1
  refine ⟨old _ _ h.zero, fun z m hz => ?_, fun q hq => ?_, fun l' z e he hk => ?_, ?_, fun z m hz => ?_⟩
  · rw [look_put] at hz
    by_cases c : z = x
    · rw [if_pos c] at hz
      cases hz
      subst c
      exact ⟨by omega, by omega, fun _ => ⟨l, here, hm, by rw [old _ _ hh]; congr 1; omega⟩⟩
    · rw [if_neg c] at hz
      obtain ⟨a1, a2, a3⟩ := h.back z m hz
      exact ⟨a1, a2, fun p => by
        obtain ⟨l', e, b1, b2⟩ := a3 p
        exact ⟨l', e, b1, old _ _ b2⟩⟩
  · rw [look_put]
    rcases List.mem_append.mp hq with hq | hq
    · by_cases c : q = x
      · rw [if_pos c]; exact nofun
      · rw [if_neg c]; exact h.inq q hq
    · rw [if_pos (List.mem_singleton.mp hq)]; exact nofun
  · by_cases c : e = x
    · exact .inl (List.mem_append_right _ (by rw [c]; exact List.mem_singleton.mpr rfl))
    · rw [look_put, if_neg c] at hk
      rcases h.closed l' z e he hk with a | a | ⟨a1, a2⟩
      · exact .inl (List.mem_append_left _ a)
      · refine .inr (.inl ?_)
        rw [look_put]
        by_cases c2 : z = x
        · rw [if_pos c2]; exact nofun
        · rw [if_neg c2]; exact a
      · rcases List.mem_cons.mp a2 with a2 | a2
        · have : z = x := by cases a2; rfl
          subst this
          exact .inr (.inl (by rw [look_put, if_pos rfl]; exact nofun))
        · exact .inr (.inr ⟨a1, a2⟩)
  · have h1 := cnt_put (n := n + 1) hm hx
    have h2 : (put ys x (n + 1)).length = ys.length + 1 := by rw [put_len, if_neg (look_none.mp hx)]
    have := h.len
    omega
  · have h2 : (put ys x (n + 1)).length = ys.length + 1 := by rw [put_len, if_neg (look_none.mp hx)]
    rw [look_put] at hz
    by_cases c : z = x
    · rw [if_pos c] at hz
      cases hz
      have := h.bnd here n hh
      omega
    · rw [if_neg c] at hz
      have := h.bnd z m hz
      omega
theorem LenInv.skip {es : Ends3} {b : Str} {ys : List (Str × Int)} {qs : List Str} {here : Str} {rest : Ends3} {z : (Nat × Nat) × Str × Str} (h : LenInv es b ys qs (some here) (z :: rest)) (hs : z.2.2 = here → look ys z.2.1 ≠ none) : LenInv es b ys qs (some here) rest :=
  ⟨h.zero, h.back, h.inq, fun l x e he hk => by
    rcases h.closed l x e he hk with a | a | ⟨a1, a2⟩
    · exact .inl a
    · exact .inr (.inl a)
    · rcases List.mem_cons.mp a2 with a2 | a2
      · subst a2
        cases a1
        exact .inr (.inl (hs rfl))
      · exact .inr (.inr ⟨a1, a2⟩), h.len, h.bnd⟩
section
variable {P : Program} {w : World} {K : PySem.W.Frag} {mg : Str → Option Value} {base : Heap}

abbrev N_check_items : List Str := ["log", "items", "item"]
theorem sc_check_items : FnScope N_check_items ["log", "items"] (defScope s_check_items) := ⟨rfl, rfl, rfl, by decide +kernel, rfl, by decide +kernel, by decide +kernel⟩
theorem mk_check_items (T : Tx K mg) {sp : Sp} (len : ∀ vs H Q E, sp vs H Q E → vs.length = 2)
    (hb : ∀ (cdv : Value) (A : Around) (outer : List Env) (s : Shared) (H : Hp) (vs : List V) (Q : VK) (E : XK), Room 2 (A.deeper (envOfC "check_items" (defScope s_check_items) s.heap.objs.size (He.ga K "check_items") cdv)) → sp vs H Q E →
      ∃ t, PSs (cxOf CX0 P w K mg base N_check_items "check_items" (defScope s_check_items) (He.ga K "check_items") cdv A outer s H E).nox (defBody s_check_items) t ∧ t { nx := fun _ H' => Q .non H', rt := Q } (start N_check_items vs) H) : Cal P w K mg base 3 "check_items" sp := by
  obtain ⟨fd, F⟩ := T.fn 0 rfl
  have b : Binds K fd ["log", "items"] [] := F.binds fun _ _ _ _ _ _ us hl => match us, hl with | [_, _], _ => rfl
  exact ⟨_, fd, _, F.ok sc_check_items len hb, T.glo 0 rfl, F.kp, b⟩
def sp_check_items (K : PySem.W.Frag) : Sp := mkSp (aChk K) (rU) (fun _ _ => True)
theorem ln_check_items {K : PySem.W.Frag} : ∀ vs H Q E, sp_check_items K vs H Q E → vs.length = 2 := by
  rintro vs H Q E ⟨G, i, e, h, _⟩
  have h : (aChk K) i G vs := h
  obtain ⟨_, _, v, w, rfl, _⟩ := h; rfl
theorem ok_check_items (T : Tx K mg) : Cal P w K mg base 3 "check_items" (sp_check_items K) := mk_check_items T ln_check_items (fun cdv A outer s H vs Q E hr h => by
  have hu := hu_of hr
  have nd := sc_check_items.nd
  obtain ⟨G, i, e, ha, q⟩ := h
  refine ⟨_, pss_one (ps_for PassesOwn.never rfl (k_iList (K := K) rfl (pv 1)) (pg_name (i := 2) nd rfl (Or.inl rfl)) (pss_one (ps_if (pt_cmpR (k_notIn (K := K) rfl) (pv 2) (pe_p (ok_Log_item_names T) hr (pv 0)) rfl) (pss_one (ps_never)) (pss_nil)))), ?_⟩
  obtain ⟨L, xs⟩ := i
  dsimp only [aChk] at ha
  obtain ⟨W, hx, v, w1, rfl, hv, hw⟩ := ha
  refine s_for (ei_list (R := rS) (P := fun ys => ys = xs) (ev_var rfl hw)) e (fun ys G3 H3 hy n3 => ?_)
  subst hy
  refine ⟨fun i σ' G' H' => Nxt G H G' H' ∧ (∃ a, σ' = [some v, some w1, a]), ⟨n3, ⟨_, rfl⟩⟩, ?_, ?_⟩
  · rintro i x σ' G' H' hx2 e1 e2 ⟨nn, ⟨a, rfl⟩⟩ w1 G4 H4 n4 rfl
    refine s_if (b := false) (et_test (ev_val (ev_notInS (ev_var rfl rfl) (ev_lp W (ev_var rfl ((rLog K).ex (nn.g.trans n4.g) hv)) "item_names" (by intros; rfl))) ?_)) n4.s (fun hb => by cases hb) (fun hb G7 H7 n7 => ?_)
    · rw [decide_eq_true (hx x (List.mem_of_getElem? hx2))]; rfl
    · exact ⟨G7, (e1.trans n4.g).trans n7.g, n7.s, (nn.trans n4).trans n7, ⟨_, rfl⟩⟩
  · rintro σ' G' H' e1 e2 ⟨nn, _⟩
    exact q .non G' H' () nn rfl trivial)
abbrev N_lengths_to : List Str := ["ends", "better", "lengths", "queue", "here", "_", "begin", "end"]
theorem sc_lengths_to : FnScope N_lengths_to ["ends", "better"] (defScope s_lengths_to) := ⟨rfl, rfl, rfl, by decide +kernel, rfl, by decide +kernel, by decide +kernel⟩
theorem mk_lengths_to (T : Tx K mg) {sp : Sp} (len : ∀ vs H Q E, sp vs H Q E → vs.length = 2)
    (hb : ∀ (cdv : Value) (A : Around) (outer : List Env) (s : Shared) (H : Hp) (vs : List V) (Q : VK) (E : XK), Room 0 (A.deeper (envOfC "lengths_to" (defScope s_lengths_to) s.heap.objs.size (He.ga K "lengths_to") cdv)) → sp vs H Q E →
      ∃ t, PSs (cxOf CX0 P w K mg base N_lengths_to "lengths_to" (defScope s_lengths_to) (He.ga K "lengths_to") cdv A outer s H E).nox (defBody s_lengths_to) t ∧ t { nx := fun _ H' => Q .non H', rt := Q } (start N_lengths_to vs) H) : Cal P w K mg base 1 "lengths_to" sp := by
  obtain ⟨fd, F⟩ := T.fn 5 rfl
  have b : Binds K fd ["ends", "better"] [] := F.binds fun _ _ _ _ _ _ us hl => match us, hl with | [_, _], _ => rfl
  exact ⟨_, fd, _, F.ok sc_lengths_to len hb, T.glo 5 rfl, F.kp, b⟩
def sp_lengths_to (K : PySem.W.Frag) : Sp := mkSp (aLen) (rD kS FW.rI) (fun i y => IsLen i.1 i.2 y)
theorem ln_lengths_to {K : PySem.W.Frag} : ∀ vs H Q E, sp_lengths_to K vs H Q E → vs.length = 2 := by
  rintro vs H Q E ⟨G, i, e, h, _⟩
  have h : (aLen) i G vs := h
  obtain ⟨_, v, rfl, _⟩ := h; rfl
theorem ok_lengths_to (T : Tx K mg) : Cal P w K mg base 1 "lengths_to" (sp_lengths_to K) := mk_lengths_to T ln_lengths_to (fun cdv A outer s H vs Q E hr h => by
  have hu := hu_of hr
  have nd := sc_lengths_to.nd
  obtain ⟨G, i, e, ha, q⟩ := h
  refine ⟨_, pss_cons (ps_set (i := 2) nd rfl (Or.inl rfl) (pe_disp (pps_cons (pv 1) (pe_int) (pps_nil)) (by rfl) (by rfl) (fun z => by cases z) (by decide)))
      (pss_cons (ps_set (i := 3) nd rfl (Or.inl rfl) (pe_lst (pa_cons (pv 1) pa_nil)))
      (pss_cons (ps_while PassesOwn.never (k_truth (K := K) rfl (pv 3) (by intro _; rfl)) (pss_cons (ps_set (i := 4) nd rfl (Or.inl rfl) (pe_bm PySem.F.plainAttrs_list PySem.F.slot_list_pop PySem.F.type_list_pop mt_popAt (pv 3) (pa_cons (pe_int) pa_nil)))
      (pss_one (ps_for PassesOwn.never rfl (k_iList (K := K) rfl (pv 0)) (pg_tup rfl (pgs_cons (pg_name (i := 5) nd rfl (Or.inl rfl)) (pgs_cons (pg_name (i := 6) nd rfl (Or.inl rfl)) (pgs_cons (pg_name (i := 7) nd rfl (Or.inl rfl)) pgs_nil)))) (pss_one (ps_if (PW.pt (pw_and (pt_cmpR op_eq (pv 7) (pv 4) (nomark _)) (pw_and1 (pt_cmp (pc_dnotin hu (pv 6) (pv 2)))))) (pss_cons (ps_dput hu (pv 2) (pv 6) (pe_op op_add (pe_dget hu (pv 2) (pv 4) (fun _ _ => rfl)) (pe_int)) rfl)
      (pss_one (ps_expr (pe_bm PySem.F.plainAttrs_list PySem.F.slot_list_append PySem.F.type_list_append mt_append (pv 3) (pa_cons (pv 6) pa_nil))))) (pss_nil)))))))
      (pss_one (ps_ret (pv 2))))), ?_⟩
  obtain ⟨es, b⟩ := i
  dsimp only [aLen] at ha
  obtain ⟨hlen, v, rfl, hv⟩ := ha
  dsimp only at q hv
  refine q_disp1 (kf := kS) (RK := rS) (R := FW.rI) (PA := fun y => y = 0) key_S (ev_var rfl rfl) ev_int e fun d v0 G1 H1 y n1 r1 p1 own1 => ?_
  subst p1
  refine q_newL1 (R := rS) (PA := fun y => y = b) (ev_var rfl rfl) n1.s fun qd v1 G2 H2 y n2 r2 p2 own2 => ?_
  subst p2
  cases r1; cases r2
  refine q_while (m0 := 1 + cntL es (put [] y 0)) (Pv := fun m σ' G' H' => Nxt G H G' H' ∧ (∃ a1 a2 a3 a4, σ' = [some v, some (.str y), some (.ref d), some (.ref qd), a1, a2, a3, a4]) ∧ ∃ us ys qs, Own H G' H' d (.dK us) ∧ Own H G' H' qd (.lst (qs.map V.str)) ∧ Pd (Ent kS FW.rI G') us ys ∧ LenInv es y ys qs none [] ∧ m = qs.length + cntL es ys ∧ m ≤ es.length + 1) n2.s ⟨n1.trans n2, ⟨_, _, _, _, rfl⟩, _, [(y, 0)], [y], own1.nxt n2, own2.old (G2 := G2) n1.h, .cons ⟨rfl, rfl⟩ .nil, ?_, rfl, ?_⟩ ?_
  · refine ⟨by rw [look_cons, if_pos rfl], fun x n hx => ?_, fun q hq => ?_, fun l x e he hk => ?_, ?_, fun x n hx => ?_⟩
    · rw [look_cons] at hx
      by_cases c : y = x
      · rw [if_pos c] at hx
        cases hx
        exact ⟨by omega, fun _ => c.symm, fun z => absurd z (show ¬ ((0:Int) < 0) by decide)⟩
      · rw [if_neg c] at hx; cases hx
    · rw [List.mem_singleton.mp hq, look_cons, if_pos rfl]; exact nofun
    · left
      rw [look_cons] at hk
      by_cases c : y = e
      · rw [c]; exact List.mem_singleton.mpr rfl
      · rw [if_neg c] at hk; exact absurd rfl hk
    · have : cntL es [(y, 0)] ≤ es.length := by
        unfold cntL
        exact Nat.le_trans (List.length_filter_le _ _) (by rw [List.length_map]; exact Nat.le_refl _)
      show 1 + _ ≤ _
      omega
    · rw [look_cons] at hx
      by_cases c : y = x
      · rw [if_pos c] at hx
        cases hx
        show (0 : Int) < 1
        decide
      · rw [if_neg c] at hx; cases hx
  · have : cntL es (put [] y 0) ≤ es.length := by
      unfold cntL
      exact Nat.le_trans (List.length_filter_le _ _) (by rw [List.length_map]; exact Nat.le_refl _)
    omega
  rintro m σ' G' H' e1 e2 ⟨nn, ⟨a1, a2, a3, a4, rfl⟩, us, ys, qs, ownd, ownq, pu, inv, rfl, hmm⟩
  have hne : d ≠ qd := fun z => by
    have h1 := ownd.h
    rw [z, ownq.h] at h1
    cases h1
  refine et_own (b := !qs.isEmpty) ownq (et_list (R := rS) (ev_var rfl (own_list ownq (strs_pd qs) e2))) e2 fun G3 H3 n3 ownq => ?_
  have ownd := ownd.nxt n3
  cases qs with
  | nil =>
    show tRet (tVar 2) _ _ _
    exact s_retK (nn.trans n3) ownd (Ex.refl _) (ent_ex n3.g pu) rfl fun v G5 H5 n5 r5 => q v G5 H5 ys n5 r5 ⟨inv.zero, inv.back, fun l x e he hk => by
      rcases inv.closed l x e he hk with a | a | ⟨a, _⟩
      · cases a
      · exact a
      · exact absurd a nofun, fun x n hx => by
      have h1 := inv.bnd x n hx
      have h2 := inv.len
      omega⟩
  | cons here qs =>
    show ∃ N, _ ∧ _
    refine ⟨fun σ3 H4 => ∃ m' G4, m' < (here :: qs).length + cntL es ys ∧ Ex G2 G4 ∧ Ex G4 H4 ∧ (Nxt G H G4 H4 ∧ (∃ a1 a2 a3 a4, σ3 = [some v, some (.str y), some (.ref d), some (.ref qd), a1, a2, a3, a4]) ∧ ∃ us ys qs, Own H G4 H4 d (.dK us) ∧ Own H G4 H4 qd (.lst (qs.map V.str)) ∧ Pd (Ent kS FW.rI G4) us ys ∧ LenInv es y ys qs none [] ∧ m' = qs.length + cntL es ys ∧ m' ≤ es.length + 1), fun σ3 H4 ⟨m', G4, h1, h2, h3, h4⟩ => ⟨m', h1, G4, h2, h3, h4⟩, ?_⟩
    refine q_pop0 ownq rfl fun ownq => ?_
    have ownd := ownd.other (u := .lst (qs.map V.str)) hne
    have n4 : Nxt G H G3 (upd H3 qd (.lst (qs.map V.str))) := (nn.trans n3).mut ownq.s ownq.g
    obtain ⟨n0, hn0⟩ : ∃ n0, look ys here = some n0 := by
      cases c : look ys here with
      | none => exact absurd c (inv.inq here List.mem_cons_self)
      | some n0 => exact ⟨n0, rfl⟩
    refine s_for (ei_list (R := rEnd) (P := fun xs => xs = es) (ev_var rfl ((rL rEnd).ex n4.g hv))) n4.s (fun xs G5 H5 hx n5 => ?_)
    subst hx
    refine ⟨fun k σ' G' H' => Nxt G H G' H' ∧ (∃ a2 a3 a4, σ' = [some v, some (.str y), some (.ref d), some (.ref qd), some (.str here), a2, a3, a4]) ∧ ∃ us ys' qs', Own H G' H' d (.dK us) ∧ Own H G' H' qd (.lst (qs'.map V.str)) ∧ Pd (Ent kS FW.rI G') us ys' ∧ LenInv xs y ys' qs' (some here) (xs.drop k) ∧ look ys' here = some n0 ∧ qs'.length + cntL xs ys' ≤ qs.length + cntL xs ys,
      ⟨n4.trans n5, ⟨_, _, _, rfl⟩, us, ys, qs, ownd.nxt n5, ownq.nxt n5, ent_ex (n3.g.trans n5.g) pu, ⟨inv.zero, inv.back, fun q hq => inv.inq q (List.mem_cons_of_mem _ hq), fun l x e he hk => ?_, inv.len, inv.bnd⟩, hn0, Nat.le_refl _⟩, ?_, ?_⟩
    · rcases inv.closed l x e he hk with a | a | ⟨a, _⟩
      · rcases List.mem_cons.mp a with a | a
        · exact .inr (.inr ⟨by rw [a], he⟩)
        · exact .inl a
      · exact .inr (.inl a)
      · cases a
    · rintro k z σ' G' H' hz e3 e4 ⟨nn2, ⟨b2, b3, b4, rfl⟩, us, ys', qs', ownd, ownq, pu, inv, hh, hm⟩ w2 G6 H6 n6 ⟨t, v1, v2, v3, rfl, ht, h1, h2, h3⟩
      have hk : k < xs.length := (List.getElem?_eq_some_iff.mp hz).1
      have hzm := List.mem_of_getElem? hz
      have hdrop : xs.drop k = z :: xs.drop (k + 1) := by
        rw [List.drop_eq_getElem_cons hk]
        congr 1
        rw [List.getElem?_eq_getElem hk] at hz
        exact Option.some.inj hz
      rw [hdrop] at inv
      have ownd := ownd.nxt n6
      have ownq := ownq.nxt n6
      have pu := ent_ex n6.g pu
      refine tg_tup3 ht tg_name tg_name tg_name H6 n6.s _ ?_
      have hd := rD_r (own_dict ownd pu)
      cases h2; cases h3
      refine s_ifO (b := decide (z.2.2 = here) && !decide (z.2.1 ∈ ys'.map (·.1))) ownd (et_and (et_test (ev_eqS (ev_var rfl rfl) (ev_var rfl rfl))) fun _ => et_B (ev_dnotin (RK := rS) inj_S key_S (ev_var rfl rfl) (ev_var rfl hd))) n6.s (fun hb G7 H7 n7 ownd => ?_) (fun hb G7 H7 n7 ownd => ?_)
      · rw [Bool.and_eq_true, decide_eq_true_eq, Bool.not_eq_true', decide_eq_false_iff_not] at hb
        have hnone := look_none.mpr hb.2
        have hlen := inv.len
        have pul := pd_len pu
        have pu := ent_ex n7.g pu
        have hd7 := rD_r (own_dict ownd pu)
        refine q_dputA (RK := rS) (R := FW.rI) (x := z.2.1) (PA := fun m => m = n0 + 1) key_S ownd rfl (AtP.own off_I ownd rfl n7.s (ev_addI (ev_dget (RK := rS) inj_S key_S (ev_var rfl hd7) (ev_var rfl rfl) hh) ev_int)) (ev_var rfl rfl) (by omega) fun v8 G8 H8 m8 n8 r8 p8 own8 => ?_
        subst p8
        have ownq8 := ((ownq.nxt n7).nxt n8).other (u := .dK (putK us (kS z.2.1) v8)) (Ne.symm hne)
        refine s_app ownq8 rfl (R := rS) (PA := fun m => m = z.2.1) (ev_var rfl rfl) (n8.s.mut own8.g) ?_ fun v9 G9 H9 m9 n9 r9 p9 own9 => ?_
        · rw [List.length_map]
          have : cntL xs ys ≤ xs.length := by
            unfold cntL
            exact Nat.le_trans (List.length_filter_le _ _) (by rw [List.length_map]; exact Nat.le_refl _)
          rw [List.length_cons] at hmm
          omega
        · subst p9
          cases r9
          obtain ⟨l0, x0, e0⟩ := z
          obtain ⟨rfl, hb2⟩ := hb
          refine ⟨G9, (e3.trans n6.g).trans ((n7.g.trans n8.g).trans n9.g), n9.s.mut own9.g, ((((nn2.trans n6).trans n7).trans n8).mut own8.s own8.g |>.trans n9).mut own9.s own9.g, ⟨_, _, _, rfl⟩, _, put ys' x0 (n0 + 1), qs' ++ [x0], (own8.nxt n9).other hne, ?_, ent_ex (n8.g.trans n9.g) (pd_put inj_S pu r8), inv.add hzm hnone hh, ?_, ?_⟩
          · rw [List.map_append]; exact own9
          · rw [look_put, if_neg (fun c => by rw [c] at hh; rw [hnone] at hh; cases hh)]; exact hh
          · have := cnt_put (n := n0 + 1) hzm hnone
            rw [List.length_append, List.length_singleton]
            omega
      · refine ⟨G7, (e3.trans n6.g).trans n7.g, n7.s, (nn2.trans n6).trans n7, ⟨_, _, _, rfl⟩, us, ys', qs', ownd, ownq.nxt n7, ent_ex n7.g pu, inv.skip fun hz2 => ?_, hh, hm⟩
        rw [decide_eq_true hz2, Bool.true_and, Bool.not_eq_false', decide_eq_true_eq] at hb
        exact fun c => look_none.mp c hb
    · rintro σ' G' H' e3 e4 ⟨nn2, ⟨b2, b3, b4, rfl⟩, us, ys', qs', ownd, ownq, pu, inv, hh, hm⟩
      rw [List.drop_length] at inv
      refine ⟨qs'.length + cntL xs ys', G', ?_, (e1.trans n3.g).trans (n5.g.trans e3), e4, nn2, ⟨_, _, _, _, rfl⟩, us, ys', qs', ownd, ownq, pu, ⟨inv.zero, inv.back, inv.inq, fun l x e he hk => ?_, inv.len, inv.bnd⟩, rfl, ?_⟩
      · rw [List.length_cons]; omega
      · rcases inv.closed l x e he hk with a | a | ⟨_, a⟩
        · exact .inl a
        · exact .inr (.inl a)
        · cases a
      · rw [List.length_cons] at hmm; omega)
end
end FW
/-! first_way, way_between. -/
namespace FW
open PySem PySem.Spec PyProof.Rows L2 Hd
abbrev rWay : Rp (List (Nat × Nat)) := rL (rT2 rN rN)
theorem way_nn {G : Hp} {v : V} {x : List (Nat × Nat)} (h : rWay.is G v x) : v ≠ .non := by
  obtain ⟨a, _, rfl, _⟩ := h
  exact nofun
def firstL (es : Ends3) (ys : List (Str × Int)) (wo : Str) : List Int := (es.filter fun z => decide (z.2.1 = wo) && decide (z.2.2 ∈ ys.map (·.1))).map fun z => (look ys z.2.2).getD 0
theorem key_look {ys : List (Str × Int)} {x : Str} : x ∈ ys.map (·.1) ↔ look ys x ≠ none := by
  rw [Ne, look_none]
  exact ⟨fun h c => c h, fun h => Decidable.byContradiction h⟩
theorem mem_firstL {es : Ends3} {ys : List (Str × Int)} {wo : Str} {n : Int} : n ∈ firstL es ys wo ↔ ∃ l e, (l, wo, e) ∈ es ∧ look ys e = some n := by
  unfold firstL
  rw [List.mem_map]
  constructor
  · rintro ⟨⟨l, x, e⟩, hz, hm⟩
    obtain ⟨hz1, hz2⟩ := List.mem_filter.mp hz
    rw [Bool.and_eq_true, decide_eq_true_eq, decide_eq_true_eq, key_look] at hz2
    obtain ⟨hz3, hz2⟩ := hz2
    have hz3 : x = wo := hz3
    subst hz3
    refine ⟨l, e, hz1, ?_⟩
    cases c : look ys e with
    | none => exact absurd c hz2
    | some k =>
      have hm : (look ys e).getD 0 = n := hm
      rw [c] at hm
      rw [← hm]; rfl
  · rintro ⟨l, e, he, hn⟩
    refine ⟨(l, wo, e), List.mem_filter.mpr ⟨he, ?_⟩, ?_⟩
    · rw [Bool.and_eq_true, decide_eq_true_eq, decide_eq_true_eq, key_look]
      exact ⟨rfl, by rw [hn]; exact nofun⟩
    · show (look ys e).getD 0 = n
      rw [hn]; rfl
def nextL (es : Ends3) (ys : List (Str × Int)) (hr : Str) (lf : Int) : List ((Nat × Nat) × Str) := (es.filter fun z => decide (z.2.1 = hr) && decide (look ys z.2.2 = some lf)).map fun z => (z.1, z.2.2)
theorem mem_nextL {es : Ends3} {ys : List (Str × Int)} {hr : Str} {lf : Int} {l : Nat × Nat} {e : Str} : (l, e) ∈ nextL es ys hr lf ↔ (l, hr, e) ∈ es ∧ look ys e = some lf := by
  unfold nextL
  rw [List.mem_map]
  constructor
  · rintro ⟨⟨l', x, e'⟩, hz, hm⟩
    obtain ⟨hz1, hz2⟩ := List.mem_filter.mp hz
    rw [Bool.and_eq_true, decide_eq_true_eq, decide_eq_true_eq] at hz2
    cases hm
    obtain ⟨hz3, hz2⟩ := hz2
    have hz3 : x = hr := hz3
    subst hz3
    exact ⟨hz1, hz2⟩
  · rintro ⟨h1, h2⟩
    exact ⟨(l, hr, e), List.mem_filter.mpr ⟨h1, by rw [Bool.and_eq_true, decide_eq_true_eq, decide_eq_true_eq]; exact ⟨rfl, h2⟩⟩, rfl⟩
/-- what first_way gives -/
structure IsWay (E : Str → Str → Prop) (w b : Str) (y : Option (List (Nat × Nat))) : Prop where
  no : y = none ↔ ¬ Relation.TransGen E w b
  one : E w b → ∃ x, y = some x ∧ x.length = 1
  len : ∀ x, y = some x → x ≠ [] ∧ x.length ≤ 100000
theorem IsLen.bound {es : Ends3} {b : Str} {ys : List (Str × Int)} (h : IsLen es b ys) {x : Str} {n : Int} (hx : look ys x = some n) : 0 ≤ n := (h.back x n hx).1
section
variable {P : Program} {w : World} {K : PySem.W.Frag} {mg : Str → Option Value} {base : Heap}

abbrev N_first_way : List Str := ["ends", "worse", "better", "lengths", "left", "way", "here", "link", "_", "begin", "end"]
theorem sc_first_way : FnScope N_first_way ["ends", "worse", "better"] (defScope s_first_way) := ⟨rfl, rfl, rfl, by decide +kernel, rfl, by decide +kernel, by decide +kernel⟩
theorem mk_first_way (T : Tx K mg) {sp : Sp} (len : ∀ vs H Q E, sp vs H Q E → vs.length = 3)
    (hb : ∀ (cdv : Value) (A : Around) (outer : List Env) (s : Shared) (H : Hp) (vs : List V) (Q : VK) (E : XK), Room 1 (A.deeper (envOfC "first_way" (defScope s_first_way) s.heap.objs.size (He.ga K "first_way") cdv)) → sp vs H Q E →
      ∃ t, PSs (cxOf CX0 P w K mg base N_first_way "first_way" (defScope s_first_way) (He.ga K "first_way") cdv A outer s H E).nox (defBody s_first_way) t ∧ t { nx := fun _ H' => Q .non H', rt := Q } (start N_first_way vs) H) : Cal P w K mg base 2 "first_way" sp := by
  obtain ⟨fd, F⟩ := T.fn 6 rfl
  have b : Binds K fd ["ends", "worse", "better"] [] := F.binds fun _ _ _ _ _ _ us hl => match us, hl with | [_, _, _], _ => rfl
  exact ⟨_, fd, _, F.ok sc_first_way len hb, T.glo 6 rfl, F.kp, b⟩
def sp_first_way (K : PySem.W.Frag) : Sp := mkSp (aWay) (rO rWay) (fun i y => IsWay (EdR i.1) i.2.1 i.2.2 y)
theorem ln_first_way {K : PySem.W.Frag} : ∀ vs H Q E, sp_first_way K vs H Q E → vs.length = 3 := by
  rintro vs H Q E ⟨G, i, e, h, _⟩
  have h : (aWay) i G vs := h
  obtain ⟨_, v, rfl, _⟩ := h; rfl
theorem ok_first_way (T : Tx K mg) : Cal P w K mg base 2 "first_way" (sp_first_way K) := mk_first_way T ln_first_way (fun cdv A outer s H vs Q E hr h => by
  have hu := hu_of hr
  have nd := sc_first_way.nd
  obtain ⟨G, i, e, ha, q⟩ := h
  refine ⟨_, pss_cons (ps_set (i := 3) nd rfl (Or.inr rfl) (pe_c (ok_lengths_to T) hr (pa_cons (pv 0) (pa_cons (pv 2) pa_nil))))
      (pss_cons (ps_set (i := 4) nd rfl (Or.inr rfl) (pe_minD hr (pe_lc (own := [("_", 8), ("begin", 9), ("end", 10)]) (g := (gTup K 3 (gCons (gName 8) (gCons (gName 9) (gCons (gName 10) gNil))))) rfl nd (k_iList (K := K) rfl (pv 0)) (blkOk_by (by kernel_rfl)) (fun _ _ _ _ _ => pg_tup rfl (pgs_cons (pg_name (i := 8) nd rfl (by first | exact Or.inl rfl | exact Or.inr rfl)) (pgs_cons (pg_name (i := 9) nd rfl (by first | exact Or.inl rfl | exact Or.inr rfl)) (pgs_cons (pg_name (i := 10) nd rfl (by first | exact Or.inl rfl | exact Or.inr rfl)) pgs_nil)))) (fun _ _ _ _ _ => (pts_one (PW.pt (pw_and (pt_cmpR op_eq (pv 9) (pv 1) (nomark _)) (pw_and1 (pt_cmp (pc_din hu (pv 10) (pv 3)))))))) (fun _ _ _ _ _ => pe_dget hu (pv 3) (pv 10) (fun _ _ => rfl))) (pe_non) (T.free 77 rfl)))
      (pss_cons (ps_if (pt_cmpR op_isN (pv 4) pe_non (nomark _)) (pss_one (ps_ret (pe_non))) (pss_nil))
      (pss_cons (ps_set (i := 5) nd rfl (Or.inl rfl) (pe_lst (pa_nil)))
      (pss_cons (ps_set (i := 6) nd rfl (Or.inr rfl) (pv 1))
      (pss_cons (ps_while PassesOwn.never (pt_cmpR op_ge (pv 4) (pe_int) (nomark _)) (pss_cons (ps_asg (pe_ix (k_ixL (K := K) rfl) (pe_lc (own := [("link", 7), ("begin", 9), ("end", 10)]) (g := (gTup K 3 (gCons (gName 7) (gCons (gName 9) (gCons (gName 10) gNil))))) rfl nd (k_iList (K := K) rfl (pv 0)) (blkOk_by (by kernel_rfl)) (fun _ _ _ _ _ => pg_tup rfl (pgs_cons (pg_name (i := 7) nd rfl (by first | exact Or.inl rfl | exact Or.inr rfl)) (pgs_cons (pg_name (i := 9) nd rfl (by first | exact Or.inl rfl | exact Or.inr rfl)) (pgs_cons (pg_name (i := 10) nd rfl (by first | exact Or.inl rfl | exact Or.inr rfl)) pgs_nil)))) (fun _ _ _ _ _ => (pts_one (PW.pt (pw_and (pt_cmpR op_eq (pv 9) (pv 6) (nomark _)) (pw_and1 (pt_cmpR op_eq (pe_dget1 hu (pv 3) (pv 10) pe_m1g) (pv 4) (nomark _))))))) (fun _ _ _ _ _ => pe_tup (pa_cons (pv 7) (pa_cons (pv 10) pa_nil)))) (pe_int) (fun _ _ => rfl)) (pg_tup rfl (pgs_cons (pg_name (i := 7) nd rfl (Or.inl rfl)) (pgs_cons (pg_name (i := 6) nd rfl (Or.inr rfl)) pgs_nil))))
      (pss_cons (ps_expr (pe_bm PySem.F.plainAttrs_list PySem.F.slot_list_append PySem.F.type_list_append mt_append (pv 5) (pa_cons (pv 7) pa_nil)))
      (pss_one (ps_aug (i := 4) nd rfl (Or.inr rfl) (pe_int) ip_sub)))))
      (pss_one (ps_ret (pv 5)))))))), ?_⟩
  obtain ⟨es, wo, b⟩ := i
  dsimp only [aWay] at ha
  obtain ⟨hlen, v, rfl, hv⟩ := ha
  dsimp only at q hv
  refine q_asgP (R := rD kS FW.rI) (PA := fun y => IsLen es b y) (ev_call2 (R := rL rEnd) (S := rS) (ev_var rfl hv) (ev_var rfl rfl) fun G3 v1 x1 w1 y1 e3 r1 p1 r2 p2 => ?_) e fun vd G1 H1 ys n1 rd hy => ?_
  · subst p1 p2
    cases r2
    exact mkSp_use (args := aLen) (x1, y1) ⟨hlen, v1, rfl, r1⟩
  have hv1 := (rL rEnd).ex n1.g hv
  refine q_asgP (R := rO FW.rI) (PA := fun d => (d = none ∧ ∀ l e, (l, wo, e) ∈ es → look ys e = none) ∨ ∃ m, d = some m ∧ (∃ l e, (l, wo, e) ∈ es ∧ look ys e = some m) ∧ ∀ l e n, (l, wo, e) ∈ es → look ys e = some n → m ≤ n) (ev_minDI (P := fun zs => zs = firstL es ys wo) (PD := fun d => d = none) (ev_lcD (R := rEnd) (f := fun z => (look ys z.2.2).getD 0) (p := fun z => decide (z.2.1 = wo) && decide (z.2.2 ∈ ys.map (·.1))) (ei_list (ev_var rfl hv1)) (by omega) fun z hz G2 u e2 r => ?_) (ev_c rfl) (fun d h1 h2 => ?_) (fun ns m h1 h2 h3 => ⟨some m, fun _ => ⟨nofun, rfl⟩, ?_⟩)) n1.s fun vl G2 H2 lf n2 rl hlf => ?_
  · obtain ⟨t, v1, v2, v3, rfl, ht, h1, h2, h3⟩ := r
    cases h2; cases h3
    have hd := rD_r ((rD kS FW.rI).ex e2 rd)
    refine ⟨_, tg_tup3 ht tg_name tg_name tg_name, rfl, et_and (et_test (ev_eqS (ev_var rfl rfl) (ev_var rfl rfl))) (fun _ => et_B (ev_din (RK := rS) inj_S key_S (ev_var rfl rfl) (ev_var rfl hd))), fun hp => ev_dget (RK := rS) inj_S key_S (ev_var rfl hd) (ev_var rfl rfl) ?_⟩
    rw [Bool.and_eq_true, decide_eq_true_eq, decide_eq_true_eq, key_look] at hp
    cases c : look ys z.2.2 with
    | none => exact absurd c hp.2
    | some n => rfl
  · subst h1
    refine .inl ⟨rfl, fun l e he => ?_⟩
    cases c : look ys e with
    | none => rfl
    | some n =>
      have h4 := mem_firstL.mpr ⟨l, e, he, c⟩
      rw [← h2] at h4
      cases h4
  · subst h1
    exact .inr ⟨m, rfl, mem_firstL.mp h2, fun l e n he hn => h3 n (mem_firstL.mpr ⟨l, e, he, hn⟩)⟩
  have n12 := n1.trans n2
  refine q_if1 (et_test (ev_isN (ev_var rfl rl))) n2.s (fun hb G3 H3 n3 => ?_) (fun hb G3 H3 n3 => ?_)
  · cases lf with
    | some m => cases hb
    | none =>
      rcases hlf with ⟨_, hno⟩ | ⟨m, c, _⟩
      · refine s_ret (R := rO rWay) (x := none) (ev_c rfl) n3.s fun v4 G4 H4 n4 r4 => q v4 G4 H4 none ((n12.trans n3).trans n4) r4 ⟨⟨fun _ t => ?_, fun _ => rfl⟩, fun ⟨l, hl⟩ => ?_, fun x hx => by cases hx⟩
        · rcases RB.tg_head t with ⟨l, hl⟩ | ⟨z, ⟨l, hl⟩, t⟩
          · have := hno l b hl
            rw [hy.zero] at this; cases this
          · exact hy.key_of t (by rw [hy.zero]; exact nofun) (hno l z hl)
        · have := hno l b hl
          rw [hy.zero] at this; cases this
      · cases c
  cases lf with
  | none => cases hb
  | some m =>
    rcases hlf with ⟨c, _⟩ | ⟨m', c, ⟨l0, e0, hl0, he0⟩, hmin⟩
    · cases c
    cases c
    obtain ⟨_, rl⟩ := rl
    have rl : vl = .int m := rl
    subst rl
    have hm0 : 0 ≤ m := hy.bound he0
    have hm5 := hy.bnd e0 m he0
    have n13 := n12.trans n3
    refine q_newL n3.s fun l H4 n4 own4 => ?_
    refine q_asg (R := rS) (x := wo) (ev_var rfl rfl) n4.s fun u5 G5 H5 n5 r5 => ?_
    cases r5
    refine q_while (m0 := (m + 1).toNat) (Pv := fun μ σ' G' H' => Nxt G H G' H' ∧ ∃ (us : List V) (ws : List (Nat × Nat)) (hr : Str) (lf : Int), Own H3 G' H' l (.lst us) ∧ (∃ a1 a2 a3 a4, σ' = [some v, some (.str wo), some (.str b), some vd, some (.int lf), some (.ref l), some (.str hr), a1, a2, a3, a4]) ∧ Pd ((rT2 rN rN).is G') us ws ∧ (ws.length : Int) = m - lf ∧ -1 ≤ lf ∧ lf ≤ m ∧ (0 ≤ lf → ∃ l e, (l, hr, e) ∈ es ∧ look ys e = some lf) ∧ μ = (lf + 1).toNat) n5.s
      ⟨(n13.trans n4).trans n5, [], [], wo, m, own4.nxt n5, ⟨_, _, _, _, rfl⟩, .nil, by simp, by omega, by omega, fun _ => ⟨l0, e0, hl0, he0⟩, rfl⟩ ?_
    rintro μ σ' G' H' e1 e2 ⟨nn, us, ws, hr2, lf, own, ⟨a1, a2, a3, a4, rfl⟩, pu, hwl, hl1, hl2, hnext, rfl⟩
    refine et_test (ev_cmpI (r := fun i j => decide (j ≤ i)) (ev_var rfl rfl) ev_int) H' e2 _ fun G6 H6 n6 => ?_
    have g16 : Ex G1 G6 := ((n2.g.trans n3.g).trans (n4.g.trans n5.g)).trans (e1.trans n6.g)
    by_cases hb : (0 : Int) ≤ lf
    · rw [if_pos (decide_eq_true hb)]
      obtain ⟨lk, en, hlk, hen⟩ := hnext hb
      refine ⟨fun σ3 H4 => ∃ m' G4, m' < (lf + 1).toNat ∧ Ex G5 G4 ∧ Ex G4 H4 ∧ (Nxt G H G4 H4 ∧ ∃ (us : List V) (ws : List (Nat × Nat)) (hr : Str) (lf : Int), Own H3 G4 H4 l (.lst us) ∧ (∃ a1 a2 a3 a4, σ3 = [some v, some (.str wo), some (.str b), some vd, some (.int lf), some (.ref l), some (.str hr), a1, a2, a3, a4]) ∧ Pd ((rT2 rN rN).is G4) us ws ∧ (ws.length : Int) = m - lf ∧ -1 ≤ lf ∧ lf ≤ m ∧ (0 ≤ lf → ∃ l e, (l, hr, e) ∈ es ∧ look ys e = some lf) ∧ m' = (lf + 1).toNat), fun σ3 H4 ⟨m', G4, h1, h2, h3, h4⟩ => ⟨m', h1, G4, h2, h3, h4⟩, ?_⟩
      have hd := (rD kS FW.rI).ex g16 rd
      have hv6 := (rL rEnd).ex g16 hv1
      obtain ⟨z0, hz0⟩ : ∃ z0, (nextL es ys hr2 lf)[0]? = some z0 := ⟨_, List.getElem?_eq_getElem (List.length_pos_of_mem (mem_nextL.mpr ⟨hlk, hen⟩))⟩
      obtain ⟨lz, ez⟩ := z0
      have hz4 := mem_nextL.mp (List.mem_of_getElem? hz0)
      refine q_asgT (R := rT2 (rT2 rN rN) rS) (PA := fun y => y = (lz, ez)) (ev_ixL (xs := nextL es ys hr2 lf) (i := 0) (ev_lcD (R := rEnd) (f := fun z => (z.1, z.2.2)) (p := fun z => decide (z.2.1 = hr2) && decide (look ys z.2.2 = some lf)) (ei_list (ev_var rfl hv6)) (by omega) fun z hz G2 u e2 r => ?_) ev_int hz0) n6.s fun v7 G7 H7 x n7 r7 p7 => ?_
      · obtain ⟨t, v1, v2, v3, rfl, ht, h1, h2, h3⟩ := r
        cases h2; cases h3
        exact ⟨_, tg_tup3 ht tg_name tg_name tg_name, rfl, et_and (et_test (ev_eqS (ev_var rfl rfl) (ev_var rfl rfl))) (fun _ => et_test (ev_eqOI (ev_dget1 (RK := rS) (fun _ _ _ h => by cases h; exact nofun) inj_S key_S (ev_var rfl ((rD kS FW.rI).ex e2 hd)) (ev_var rfl rfl)) (ev_var rfl rfl))), fun hp => ev_tup2D (ev_var rfl h1) (ev_var rfl rfl)⟩
      · subst p7
        obtain ⟨t, v1, v2, rfl, ht, h1, h2⟩ := r7
        refine ⟨_, tg_tup2 ht tg_name tg_name, ?_⟩
        cases h2
        have own7 := (own.nxt n6).nxt n7
        have pul := pd_len pu
        refine q_app own7 rfl (R := rT2 rN rN) (PA := fun y => y = lz) (ev_var rfl h1) n7.s (by omega) fun v8 G8 H8 x n8 r8 p8 own8 => ?_
        subst p8
        refine s_subI rfl ev_int (n8.s.mut own8.g) fun G9 H9 n9 => ?_
        refine ⟨(lf - 1 + 1).toNat, G9, by omega, e1.trans ((n6.g.trans n7.g).trans (n8.g.trans n9.g)), n9.s, (((nn.trans n6).trans n7).trans n8 |>.mut (n13.h.free own8.s) own8.g).trans n9, us ++ [v8], ws ++ [x], ez, lf - 1, own8.nxt n9, ⟨_, _, _, _, rfl⟩, pd_snoc (pd_mono (fun _ _ => (rT2 rN rN).ex ((n6.g.trans n7.g).trans (n8.g.trans n9.g))) pu) ((rT2 rN rN).ex n9.g r8), ?_, by omega, by omega, fun h => ?_, rfl⟩
        · rw [List.length_append, List.length_singleton]; omega
        · obtain ⟨l', e', h3, h4⟩ := (hy.back _ _ hz4.2).2.2 (by omega)
          exact ⟨l', e', h3, h4⟩
    · rw [if_neg (by rw [decide_eq_true_eq]; exact hb)]
      refine s_retL (nn.trans n6) (own.nxt n6) n13.h (pd_mono (fun _ _ => (rT2 rN rN).ex n6.g) pu) rfl fun v7 G7 H7 n7 r7 => q v7 G7 H7 (some ws) n7 ⟨way_nn r7, r7⟩ ⟨⟨nofun, fun h => ?_⟩, fun ⟨l', hl'⟩ => ⟨ws, rfl, ?_⟩, fun x hx => ?_⟩
      · refine absurd ?_ h
        have hm : m = ((m.toNat : Nat) : Int) := by omega
        rw [hm] at he0
        rcases hy.reach _ _ he0 with rfl | t
        · exact .single ⟨l0, hl0⟩
        · exact RB.tg_trans (.single ⟨l0, hl0⟩) t
      · have := hmin l' b 0 hl' hy.zero
        omega
      · cases hx
        refine ⟨fun c => ?_, by omega⟩
        subst c
        simp only [List.length_nil] at hwl
        omega)
abbrev N_way_between : List Str := ["log", "worse", "better"]
theorem sc_way_between : FnScope N_way_between ["log", "worse", "better"] (defScope s_way_between) := ⟨rfl, rfl, rfl, by decide +kernel, rfl, by decide +kernel, by decide +kernel⟩
theorem mk_way_between (T : Tx K mg) {sp : Sp} (len : ∀ vs H Q E, sp vs H Q E → vs.length = 3)
    (hb : ∀ (cdv : Value) (A : Around) (outer : List Env) (s : Shared) (H : Hp) (vs : List V) (Q : VK) (E : XK), Room 8 (A.deeper (envOfC "way_between" (defScope s_way_between) s.heap.objs.size (He.ga K "way_between") cdv)) → sp vs H Q E →
      ∃ t, PSs (cxOf CX0 P w K mg base N_way_between "way_between" (defScope s_way_between) (He.ga K "way_between") cdv A outer s H E).nox (defBody s_way_between) t ∧ t { nx := fun _ H' => Q .non H', rt := Q } (start N_way_between vs) H) : Cal P w K mg base 9 "way_between" sp := by
  obtain ⟨fd, F⟩ := T.fn 7 rfl
  have b : Binds K fd ["log", "worse", "better"] [] := F.binds fun _ _ _ _ _ _ us hl => match us, hl with | [_, _, _], _ => rfl
  exact ⟨_, fd, _, F.ok sc_way_between len hb, T.glo 7 rfl, F.kp, b⟩
def sp_way_between (K : PySem.W.Frag) : Sp := mkSp (aWayB K) (rO rWay) (fun i y => IsWay (RB.LkR i.1 RB.All) i.2.1 i.2.2 y)
theorem ln_way_between {K : PySem.W.Frag} : ∀ vs H Q E, sp_way_between K vs H Q E → vs.length = 3 := by
  rintro vs H Q E ⟨G, i, e, h, _⟩
  have h : (aWayB K) i G vs := h
  obtain ⟨_, _, v, rfl, _⟩ := h; rfl
theorem ok_way_between (T : Tx K mg) : Cal P w K mg base 9 "way_between" (sp_way_between K) := mk_way_between T ln_way_between (fun cdv A outer s H vs Q E hr h => by
  have hu := hu_of hr
  have nd := sc_way_between.nd
  obtain ⟨G, i, e, ha, q⟩ := h
  refine ⟨_, pss_cons (ps_expr (pe_c (ok_check_items T) hr (pa_cons (pv 0) (pa_cons (pe_lst (pa_cons (pv 1) (pa_cons (pv 2) pa_nil))) pa_nil))))
      (pss_one (ps_ret (pe_c (ok_first_way T) hr (pa_cons (pe_c (ok_ends_of T) hr (pa_cons (pv 0) pa_nil)) (pa_cons (pv 1) (pa_cons (pv 2) pa_nil)))))), ?_⟩
  obtain ⟨L, wo, b⟩ := i
  dsimp only [aWayB] at ha
  obtain ⟨W, ⟨hwo, hb⟩, v, rfl, hv⟩ := ha
  dsimp only at q hv
  refine q_dropP (R := rU) (PA := fun _ => True) (ev_call2 (R := rLog K) (S := rL rS) (PB := fun ys => ∃ x y, (x = wo ∨ x = b) ∧ (y = wo ∨ y = b) ∧ ys = [x, y]) (ev_var rfl hv) (ev_lst2 (PA := fun x => x = wo ∨ x = b) ((ev_var (R := rS) (x := wo) rfl rfl).imp fun x h => .inl h) ((ev_var (R := rS) (x := b) rfl rfl).imp fun x h => .inr h)) fun G3 v1 x1 w1 y1 e3 r1 p1 r2 p2 => ?_) e fun _ G1 H1 _ n1 _ _ => ?_
  · subst p1
    refine mkSp_use (args := aChk K) (x1, y1) ⟨W, fun x hx => ?_, v1, w1, rfl, r1, r2⟩
    obtain ⟨a, c, h1, h2, rfl⟩ := p2
    have key : ∀ z : Str, (z = wo ∨ z = b) → z ∈ x1.items := fun z hz => by
      rcases hz with rfl | rfl
      · exact hwo
      · exact hb
    rcases List.mem_cons.mp hx with h | h
    · rw [h]; exact key a h1
    · rw [List.mem_singleton.mp h]; exact key c h2
  refine s_retP (R := rO rWay) (PA := fun y => IsWay (RB.LkR L RB.All) wo b y) (ev_call3 (R := rL rEnd) (S := rS) (T := rS) (ev_lc0 W (ev_var rfl ((rLog K).ex n1.g hv))) (ev_var rfl rfl) (ev_var rfl rfl) fun G3 v1 x1 w1 y1 w2 y2 e3 r1 p1 r2 p2 r3 p3 => ?_) n1.s fun v4 G4 H4 y n4 r4 h4 => q v4 G4 H4 y (n1.trans n4) r4 h4
  subst p2 p3
  cases r2; cases r3
  have p1 : IsEnds L x1 := p1
  have hE : ∀ x z, EdR x1 x z ↔ RB.LkR L RB.All x z := fun x z => by
    constructor
    · rintro ⟨⟨a, c⟩, h⟩
      exact ⟨a, c, trivial, trivial, (p1.mem a c x z).mp h⟩
    · rintro ⟨a, c, _, _, h⟩
      exact ⟨(a, c), (p1.mem a c x z).mpr h⟩
  refine (mkSp_use (args := aWay) (x1, y1, y2) ⟨p1.len, v1, rfl, r1⟩).imp fun y hy => ?_
  have hy : IsWay (EdR x1) y1 y2 y := hy
  exact ⟨by rw [hy.no, RB.tg_iff hE], fun h => hy.one ((hE _ _).mpr h), hy.len⟩)
end
end FW
/-! reached, better_by. -/
namespace FW
open PySem PySem.Spec PyProof.Rows L2 Hd
theorem mem_put_keys {κ α : Type} [DecidableEq κ] {xs : List (κ × α)} {k k' : κ} {x : α} : k' ∈ (put xs k x).map (·.1) ↔ k' ∈ xs.map (·.1) ∨ k' = k := by
  rw [put_keys]
  by_cases c : k ∈ xs.map (·.1)
  · rw [if_pos c]
    exact ⟨.inl, fun h => h.elim id fun h => h ▸ c⟩
  · rw [if_neg c, List.mem_append, List.mem_singleton]
/-- a dict from each item to the items that F leads to -/
structure IsB (items : List Str) (F : Str → Str → Prop) (ds : List (Str × List Str)) : Prop where
  keys : ds.map (·.1) = items
  row : ∀ x ∈ items, ∃ ys, look ds x = some ys ∧ ys.length ≤ 6 ∧ ∀ y, y ∈ ys ↔ F x y
theorem IsB.congr {items : List Str} {F F' : Str → Str → Prop} {ds : List (Str × List Str)} (h : IsB items F ds) (k : ∀ x ∈ items, ∀ y, F x y ↔ F' x y) : IsB items F' ds := ⟨h.keys, fun x hx => by
  obtain ⟨ys, h1, h2, h3⟩ := h.row x hx
  exact ⟨ys, h1, h2, fun y => (h3 y).trans (k x hx y)⟩⟩
/-- the walk's state: M the middles done -/
structure Wsh (items : List Str) (r : Str → Str → Prop) (M : List Str) (F : Str → Str → Prop) : Prop where
  sound : ∀ x y, F x y → Relation.TransGen r x y
  base : ∀ x y, x ∈ items → r x y → F x y
  mem : ∀ x y, F x y → y ∈ items
  clos : ∀ m ∈ M, ∀ x ∈ items, ∀ y, F x m → F m y → F x y
theorem Wsh.step {items : List Str} {r : Str → Str → Prop} {M : List Str} {F : Str → Str → Prop} {m : Str} (h : Wsh items r M F) (hm : m ∈ items) (hM : ∀ x ∈ M, x ∈ items) : Wsh items r (M ++ [m]) (fun x y => F x y ∨ (F x m ∧ F m y)) := by
  refine ⟨fun x y h1 => ?_, fun x y hx hr => .inl (h.base x y hx hr), fun x y h1 => ?_, fun k hk x hx y h1 h2 => ?_⟩
  · rcases h1 with h1 | ⟨h1, h2⟩
    · exact h.sound x y h1
    · exact RB.tg_trans (h.sound _ _ h1) (h.sound _ _ h2)
  · rcases h1 with h1 | ⟨_, h1⟩
    · exact h.mem _ _ h1
    · exact h.mem _ _ h1
  · rcases List.mem_append.mp hk with hk | hk
    · have c := h.clos k hk
      rcases h1 with h1 | ⟨h1, h3⟩
      · rcases h2 with h2 | ⟨h2, h4⟩
        · exact .inl (c x hx y h1 h2)
        · exact .inr ⟨c x hx m h1 h2, h4⟩
      · rcases h2 with h2 | ⟨h2, h4⟩
        · exact .inr ⟨h1, c m hm y h3 h2⟩
        · exact .inr ⟨h1, h4⟩
    · rw [List.mem_singleton.mp hk] at h1 h2
      have h1 : F x m := by
        rcases h1 with h1 | ⟨h1, _⟩
        · exact h1
        · exact h1
      have h2 : F m y := by
        rcases h2 with h2 | ⟨_, h2⟩
        · exact h2
        · exact h2
      exact .inr ⟨h1, h2⟩
theorem Wsh.done {items : List Str} {r : Str → Str → Prop} {F : Str → Str → Prop} (h : Wsh items r items F) {x y : Str} (hx : x ∈ items) : F x y ↔ Relation.TransGen r x y := by
  refine ⟨h.sound x y, fun t => ?_⟩
  induction t with
  | single a => exact h.base _ _ hx a
  | tail _ a ih =>
    have hy := h.mem _ _ ih
    exact h.clos _ hy x hx _ ih (h.base _ _ hy a)
abbrev aRch : List Str × List ((Str × Str) × Bool) → Hp → List V → Prop := fun i G vs => (i.1.Nodup ∧ i.1.length ≤ 6 ∧ ∀ p ∈ i.2.map (·.1), p.1 ∈ i.1 ∧ p.2 ∈ i.1) ∧ ∃ v w, vs = [v, w] ∧ (rL rS).is G v i.1 ∧ (rDT kSS rB).is G w i.2
abbrev prR (ps : List ((Str × Str) × Bool)) (x y : Str) : Prop := (x, y) ∈ ps.map (·.1)
abbrev aBet (K : PySem.W.Frag) : Log × List Nat → Hp → List V → Prop := fun i G vs => WfL i.1 ∧ (i.2.Nodup ∧ i.2.length ≤ 24) ∧ ∃ v w, vs = [v, w] ∧ (rLog K).is G v i.1 ∧ (rL rN).is G w i.2
section
variable {P : Program} {w : World} {K : PySem.W.Frag} {mg : Str → Option Value} {base : Heap}

abbrev N_reached : List Str := ["items", "ends", "found", "middle", "item", "end"]
theorem sc_reached : FnScope N_reached ["items", "ends"] (defScope s_reached) := ⟨rfl, rfl, rfl, by decide +kernel, rfl, by decide +kernel, by decide +kernel⟩
theorem mk_reached (T : Tx K mg) {sp : Sp} (len : ∀ vs H Q E, sp vs H Q E → vs.length = 2)
    (hb : ∀ (cdv : Value) (A : Around) (outer : List Env) (s : Shared) (H : Hp) (vs : List V) (Q : VK) (E : XK), Room 0 (A.deeper (envOfC "reached" (defScope s_reached) s.heap.objs.size (He.ga K "reached") cdv)) → sp vs H Q E →
      ∃ t, PSs (cxOf CX0 P w K mg base N_reached "reached" (defScope s_reached) (He.ga K "reached") cdv A outer s H E).nox (defBody s_reached) t ∧ t { nx := fun _ H' => Q .non H', rt := Q } (start N_reached vs) H) : Cal P w K mg base 1 "reached" sp := by
  obtain ⟨fd, F⟩ := T.fn 8 rfl
  have b : Binds K fd ["items", "ends"] [] := F.binds fun _ _ _ _ _ _ us hl => match us, hl with | [_, _], _ => rfl
  exact ⟨_, fd, _, F.ok sc_reached len hb, T.glo 8 rfl, F.kp, b⟩
def sp_reached (K : PySem.W.Frag) : Sp := mkSp (aRch) (rD kS (rL rS)) (fun i y => IsB i.1 (Relation.TransGen (prR i.2)) y)
theorem ln_reached {K : PySem.W.Frag} : ∀ vs H Q E, sp_reached K vs H Q E → vs.length = 2 := by
  rintro vs H Q E ⟨G, i, e, h, _⟩
  have h : (aRch) i G vs := h
  obtain ⟨_, v, w, rfl, _⟩ := h; rfl
theorem ok_reached (T : Tx K mg) : Cal P w K mg base 1 "reached" (sp_reached K) := mk_reached T ln_reached (fun cdv A outer s H vs Q E hr h => by
  have hu := hu_of hr
  have nd := sc_reached.nd
  obtain ⟨G, i, e, ha, q⟩ := h
  refine ⟨_, pss_cons (ps_set (i := 2) nd rfl (Or.inr rfl) (pe_dc (own := [("item", 4)]) (g := (gName 4)) (tt := tYes) rfl nd (k_iList (K := K) rfl (pv 0)) (blkOk_by (by kernel_rfl)) (fun _ _ _ _ _ => pg_name (i := 4) nd rfl (by first | exact Or.inl rfl | exact Or.inr rfl)) (fun _ _ _ _ _ => pts_nil) (fun _ _ _ _ _ => pv 4) (fun _ _ _ _ _ => pe_lc (own := [("end", 5)]) (g := (gName 5)) rfl nd (k_iList (K := K) rfl (pv 0)) (blkOk_by (by kernel_rfl)) (fun _ _ _ _ _ => pg_name (i := 5) nd rfl (by first | exact Or.inl rfl | exact Or.inr rfl)) (fun _ _ _ _ _ => (pts_one (pt_cmp (pc_din hu (pe_tup (pa_cons (pv 4) (pa_cons (pv 5) pa_nil))) (pv 1))))) (fun _ _ _ _ _ => pv 5))))
      (pss_cons (ps_for PassesOwn.never rfl (k_iList (K := K) rfl (pv 0)) (pg_name (i := 3) nd rfl (Or.inr rfl)) (pss_one (ps_for PassesOwn.never rfl (k_iList (K := K) rfl (pv 0)) (pg_name (i := 4) nd rfl (Or.inr rfl)) (pss_one (ps_if (pt_cmpR (k_in (K := K) rfl) (pv 3) (pe_dget hu (pv 2) (pv 4) (fun _ _ => rfl)) rfl) (pss_one (ps_dput hu (pv 2) (pv 4) (pe_lc (own := [("end", 5)]) (g := (gName 5)) rfl nd (k_iList (K := K) rfl (pv 0)) (blkOk_by (by kernel_rfl)) (fun _ _ _ _ _ => pg_name (i := 5) nd rfl (by first | exact Or.inl rfl | exact Or.inr rfl)) (fun _ _ _ _ _ => (pts_one (PW.pt (pw_or (pt_cmpR (k_in (K := K) rfl) (pv 5) (pe_dget hu (pv 2) (pv 4) (fun _ _ => rfl)) rfl) (pw_or1 (pt_cmpR (k_in (K := K) rfl) (pv 5) (pe_dget hu (pv 2) (pv 3) (fun _ _ => rfl)) rfl)))))) (fun _ _ _ _ _ => pv 5)) rfl)) (pss_nil))))))
      (pss_one (ps_ret (pv 2)))), ?_⟩
  obtain ⟨items, ps⟩ := i
  dsimp only [aRch] at ha
  obtain ⟨⟨hnd, h6, hps⟩, v, w1, rfl, hv, hw⟩ := ha
  dsimp only at q hv hw
  refine q_dcO (S := rL rS) (P := fun ys => ∃ xs, xs = items ∧ Pd (fun x (y : Str × List Str) => y.1 = x ∧ y.2 = items.filter fun e => decide ((x, e) ∈ ps.map (·.1))) (xs.filter fun _ => true) ys) (ev_dcO (R := rS) (RK := rS) (PX := fun xs => xs = items) (p := fun _ => true) (ky := fun x => x) (F := fun x row => row = items.filter fun e => decide ((x, e) ∈ ps.map (·.1))) inj_S key_S (ei_list (ev_var rfl hv)) fun xs hxs => ?_) e fun d us ds G1 H1 n1 own1 pu1 hds => ?_
  · subst hxs
    refine ⟨by omega, by rw [List.map_id']; exact hnd, fun x hx G2 u e2 r => ?_⟩
    cases r
    refine ⟨_, tg_name, rfl, et_yes, fun _ => ⟨ev_var rfl rfl, ?_⟩⟩
    refine ev_val (ev_lcD (R := rS) (f := fun y => y) (p := fun y => decide ((x, y) ∈ ps.map (·.1))) (ei_list (ev_var rfl ((rL rS).ex e2 hv))) (by omega) fun y hy G3 u e3 r => ?_) (List.map_id' _)
    cases r
    exact ⟨_, tg_name, rfl, et_B (ev_val (ev_dinT (RK := rT2 rS rS) inj_SS key_SS (ev_tup2D (ev_var rfl rfl) (ev_var rfl rfl)) (ev_var rfl ((rDT kSS rB).ex (e2.trans e3) hw))) (decide_eq_decide.mpr Iff.rfl)), fun _ => ev_var rfl rfl⟩
  obtain ⟨xs, rfl, hds⟩ := hds
  rw [List.filter_eq_self.mpr (fun _ _ => rfl)] at hds
  have hds := pd_pairs hds
  have hB : IsB xs (fun x y => y ∈ xs ∧ prR ps x y) ds := by
    subst hds
    refine ⟨by rw [List.map_map]; exact List.map_id' _, fun x hx => ⟨_, look_of_mem (by rw [List.map_map]; exact (List.map_id' xs).symm ▸ hnd) (List.mem_map.mpr ⟨x, hx, rfl⟩), Nat.le_trans (List.length_filter_le _ _) h6, fun y => ?_⟩⟩
    rw [List.mem_filter, decide_eq_true_eq]
  have hW : Wsh xs (prR ps) [] (fun x y => y ∈ xs ∧ prR ps x y) := ⟨fun x y h => .single h.2, fun x y _ h => ⟨(hps _ h).2, h⟩, fun x y h => h.1, fun m hm => by cases hm⟩
  refine q_for (ei_list (R := rS) (P := fun ys => ys = xs) (ev_var rfl (by exact (rL rS).ex n1.g hv))) n1.s (fun ys G2 H2 hy n2 => ?_)
  subst hy
  refine ⟨fun k σ' G' H' => Nxt G H G' H' ∧ (∃ a b, σ' = [some v, some w1, some (.ref d), a, b, none]) ∧ ∃ us ds F, Own H G' H' d (.dK us) ∧ Pd (Ent kS (rL rS) G') us ds ∧ IsB ys F ds ∧ Wsh ys (prR ps) (ys.take k) F, ⟨n1.trans n2, ⟨_, _, rfl⟩, us, ds, _, own1.nxt n2, ent_ex n2.g pu1, hB, hW⟩, ?_, ?_⟩
  · rintro k m σ' G' H' hm e1 e2 ⟨nn, ⟨a, b, rfl⟩, us, ds, F, own, pu, hB, hW⟩ w2 G3 H3 n3 rfl
    have hmm := List.mem_of_getElem? hm
    refine s_for (ei_list (R := rS) (P := fun zs => zs = ys) (ev_var rfl (by exact (rL rS).ex (nn.g.trans n3.g) hv))) n3.s (fun zs G4 H4 hz n4 => ?_)
    subst hz
    refine ⟨fun j σ' G' H' => Nxt G H G' H' ∧ (∃ b, σ' = [some v, some w1, some (.ref d), some (.str m), b, none]) ∧ ∃ us ds, Own H G' H' d (.dK us) ∧ Pd (Ent kS (rL rS) G') us ds ∧ IsB zs (fun x y => F x y ∨ (x ∈ zs.take j ∧ F x m ∧ F m y)) ds, ⟨(nn.trans n3).trans n4, ⟨_, rfl⟩, us, ds, (own.nxt n3).nxt n4, ent_ex (n3.g.trans n4.g) pu, hB.congr fun x _ y => by rw [List.take_zero]; simp⟩, ?_, ?_⟩
    · rintro j x σ' G' H' hx e3 e4 ⟨nn2, ⟨b, rfl⟩, us, ds, own, pu, hB⟩ w3 G5 H5 n5 rfl
      have hxm := List.mem_of_getElem? hx
      have hj : j < zs.length := (List.getElem?_eq_some_iff.mp hx).1
      have hxt : x ∉ zs.take j := fun c => by
        obtain ⟨i, hi⟩ := List.mem_iff_getElem?.mp c
        rw [List.getElem?_take] at hi
        by_cases hij : i < j
        · rw [if_pos hij] at hi
          have := (List.getElem?_inj (by omega) hnd).mp (hi.trans hx.symm)
          omega
        · rw [if_neg hij] at hi; cases hi
      have take1 : zs.take (j + 1) = zs.take j ++ [x] := by rw [List.take_add_one, hx]; rfl
      have own5 := own.nxt n5
      have pu5 := ent_ex n5.g pu
      have hd := rD_r (own_dict own5 pu5)
      obtain ⟨row, hr1, hr2, hr3⟩ := hB.row x hxm
      obtain ⟨rom, hm1, hm2, hm3⟩ := hB.row m hmm
      have hrow : ∀ y, y ∈ row ↔ F x y := fun y => by
        rw [hr3]
        exact ⟨fun h => h.elim id fun h => absurd h.1 hxt, .inl⟩
      have hrom : ∀ y, y ∈ rom ↔ F m y := fun y => by
        rw [hm3]
        exact ⟨fun h => h.elim id fun h => h.2.2, .inl⟩
      refine s_ifO (b := decide (m ∈ row)) own5 (et_test (ev_inS (ev_var rfl rfl) (ev_dget (RK := rS) inj_S key_S (ev_var rfl hd) (ev_var rfl rfl) hr1))) n5.s (fun hb G6 H6 n6 own6 => ?_) (fun hb G6 H6 n6 own6 => ?_)
      · have hxF := (hrow m).mp (of_decide_eq_true hb)
        have pu6 := ent_ex n6.g pu5
        have hd6 := rD_r (own_dict own6 pu6)
        have hv6 := (rL rS).ex (nn2.g.trans (n5.g.trans (n6.g.trans (Ex.new (o := .dK us) own6.g)))) hv
        have hlu := pd_len pu6
        have hld : ds.length ≤ 6 := by
          have := congrArg List.length hB.keys
          rw [List.length_map] at this
          omega
        refine s_dputA (RK := rS) (R := rL rS) (x := x) (PA := fun r => r = zs.filter fun e => decide (e ∈ row) || decide (e ∈ rom)) key_S own6 rfl (AtP.own (off_L off_S) own6 rfl n6.s (ev_val (ev_lcD (R := rS) (f := fun y => y) (p := fun e => decide (e ∈ row) || decide (e ∈ rom)) (ei_list (ev_var rfl hv6)) (by omega) fun y hy G7 u e7 r => ?_) (List.map_id' _))) (ev_var rfl rfl) (by omega) fun v8 G8 H8 r8 n8 q8 p8 own8 => ?_
        · cases r
          have hd7 := (rDr kS (rL rS)).ex e7 hd6
          exact ⟨_, tg_name, rfl, et_or (et_test (ev_inS (ev_var rfl rfl) (ev_dget (RK := rS) inj_S key_S (ev_var rfl hd7) (ev_var rfl rfl) hr1))) (fun _ => et_test (ev_inS (ev_var rfl rfl) (ev_dget (RK := rS) inj_S key_S (ev_var rfl hd7) (ev_var rfl rfl) hm1))), fun _ => ev_var rfl rfl⟩
        · subst p8
          refine ⟨G8, (e3.trans n5.g).trans (n6.g.trans n8.g), n8.s.mut own8.g, ((nn2.trans n5).trans n6 |>.trans n8).mut own8.s own8.g, ⟨_, rfl⟩, _, _, own8, pd_put inj_S (ent_ex n8.g pu6) q8, ?_, fun z hz => ?_⟩
          · rw [put_keys, if_pos (by rw [hB.keys]; exact hxm)]; exact hB.keys
          · rw [look_put]
            by_cases c : z = x
            · rw [if_pos c, c]
              refine ⟨_, rfl, Nat.le_trans (List.length_filter_le _ _) h6, fun y => ?_⟩
              rw [List.mem_filter, Bool.or_eq_true, decide_eq_true_eq, decide_eq_true_eq, hrow, hrom, take1]
              constructor
              · rintro ⟨_, h | h⟩
                · exact .inl h
                · exact .inr ⟨List.mem_append_right _ (List.mem_singleton.mpr rfl), hxF, h⟩
              · rintro (h | ⟨_, _, h⟩)
                · exact ⟨hW.mem _ _ h, .inl h⟩
                · exact ⟨hW.mem _ _ h, .inr h⟩
            · rw [if_neg c]
              obtain ⟨yz, h1, h2, h3⟩ := hB.row z hz
              refine ⟨yz, h1, h2, fun y => ?_⟩
              rw [h3, take1, List.mem_append, List.mem_singleton]
              constructor
              · rintro (h | ⟨h, h'⟩)
                · exact .inl h
                · exact .inr ⟨.inl h, h'⟩
              · rintro (h | ⟨h | h, h'⟩)
                · exact .inl h
                · exact .inr ⟨h, h'⟩
                · exact absurd h c
      · have hxF : ¬ F x m := fun h => of_decide_eq_false hb ((hrow m).mpr h)
        refine ⟨G6, (e3.trans n5.g).trans n6.g, n6.s, (nn2.trans n5).trans n6, ⟨_, rfl⟩, us, ds, own6, ent_ex n6.g pu5, hB.congr fun z hz y => ?_⟩
        rw [take1, List.mem_append, List.mem_singleton]
        constructor
        · rintro (h | ⟨h, h'⟩)
          · exact .inl h
          · exact .inr ⟨.inl h, h'⟩
        · rintro (h | ⟨h | h, h'⟩)
          · exact .inl h
          · exact .inr ⟨h, h'⟩
          · rw [h] at h'; exact absurd h'.1 hxF
    · rintro σ' G' H' e3 e4 ⟨nn2, ⟨b, rfl⟩, us, ds, own, pu, hB⟩
      rw [List.take_length] at hB
      refine ⟨G', (e1.trans n3.g).trans (n4.g.trans e3), e4, nn2, ⟨_, _, rfl⟩, us, ds, fun x y => F x y ∨ (F x m ∧ F m y), own, pu, hB.congr fun x hx y => ?_, ?_⟩
      · exact ⟨fun h => h.elim .inl fun h => .inr h.2, fun h => h.elim .inl fun h => .inr ⟨hx, h⟩⟩
      · rw [List.take_add_one, hm]
        exact hW.step hmm fun z hz => List.mem_of_mem_take hz
  · rintro σ' G' H' e1 e2 ⟨nn, ⟨a, b, rfl⟩, us, ds, F, own, pu, hB, hW⟩
    rw [List.take_length] at hW
    exact s_retK nn own (Ex.refl _) pu rfl fun v5 G5 H5 n5 r5 => q v5 G5 H5 ds n5 r5 (hB.congr fun x hx y => hW.done hx))
abbrev N_better_by : List Str := ["log", "places", "kept", "pairs", "begin", "end", "place", "first", "second"]
theorem sc_better_by : FnScope N_better_by ["log", "places"] (defScope s_better_by) := ⟨rfl, rfl, rfl, by decide +kernel, rfl, by decide +kernel, by decide +kernel⟩
theorem mk_better_by (T : Tx K mg) {sp : Sp} (len : ∀ vs H Q E, sp vs H Q E → vs.length = 2)
    (hb : ∀ (cdv : Value) (A : Around) (outer : List Env) (s : Shared) (H : Hp) (vs : List V) (Q : VK) (E : XK), Room 8 (A.deeper (envOfC "better_by" (defScope s_better_by) s.heap.objs.size (He.ga K "better_by") cdv)) → sp vs H Q E →
      ∃ t, PSs (cxOf CX0 P w K mg base N_better_by "better_by" (defScope s_better_by) (He.ga K "better_by") cdv A outer s H E).nox (defBody s_better_by) t ∧ t { nx := fun _ H' => Q .non H', rt := Q } (start N_better_by vs) H) : Cal P w K mg base 9 "better_by" sp := by
  obtain ⟨fd, F⟩ := T.fn 9 rfl
  have b : Binds K fd ["log", "places"] [] := F.binds fun _ _ _ _ _ _ us hl => match us, hl with | [_, _], _ => rfl
  exact ⟨_, fd, _, F.ok sc_better_by len hb, T.glo 9 rfl, F.kp, b⟩
def sp_better_by (K : PySem.W.Frag) : Sp := mkSp (aBet K) (rD kS (rL rS)) (fun i y => IsB i.1.items (RB.Bt i.1 (fun p => p ∈ i.2)) y)
theorem ln_better_by {K : PySem.W.Frag} : ∀ vs H Q E, sp_better_by K vs H Q E → vs.length = 2 := by
  rintro vs H Q E ⟨G, i, e, h, _⟩
  have h : (aBet K) i G vs := h
  obtain ⟨_, _, v, w, rfl, _⟩ := h; rfl
theorem ok_better_by (T : Tx K mg) : Cal P w K mg base 9 "better_by" (sp_better_by K) := mk_better_by T ln_better_by (fun cdv A outer s H vs Q E hr h => by
  have hu := hu_of hr
  have nd := sc_better_by.nd
  obtain ⟨G, i, e, ha, q⟩ := h
  refine ⟨_, pss_cons (ps_setDc (i := 2) (own := [("place", 6)]) (g := (gName 6)) (tt := tYes) rfl nd rfl rfl (sw_trueD rfl rfl rfl (by decide +kernel)) (k_iList (K := K) rfl (pv 1)) (blkOk_by (by kernel_rfl)) (fun _ _ _ _ _ => pg_name (i := 6) nd rfl (by first | exact Or.inl rfl | exact Or.inr rfl)) (fun _ _ _ _ _ => pts_nil) (fun _ _ _ _ _ => pv 6) (fun _ _ _ _ _ => pe_bl))
      (pss_cons (ps_set (i := 3) nd rfl (Or.inl rfl) (pe_dnewT))
      (pss_cons (ps_for PassesOwn.never rfl (k_iList (K := K) rfl (pe_c (ok_ends_of T) hr (pa_cons (pv 0) pa_nil))) (pg_tup rfl (pgs_cons (pg_tup rfl (pgs_cons (pg_name (i := 7) nd rfl (Or.inl rfl)) (pgs_cons (pg_name (i := 8) nd rfl (Or.inl rfl)) pgs_nil))) (pgs_cons (pg_name (i := 4) nd rfl (Or.inl rfl)) (pgs_cons (pg_name (i := 5) nd rfl (Or.inl rfl)) pgs_nil)))) (pss_one (ps_if (PW.pt (pw_and (pt_cmp (pc_din hu (pv 7) (pv 2))) (pw_and1 (pt_cmp (pc_din hu (pv 8) (pv 2)))))) (pss_one (ps_dput hu (pv 3) (pe_tup (pa_cons (pv 4) (pa_cons (pv 5) pa_nil))) (pe_bl) rfl)) (pss_nil))))
      (pss_one (ps_ret (pe_c (ok_reached T) hr (pa_cons (pe_p (ok_Log_item_names T) hr (pv 0)) (pa_cons (pv 3) pa_nil))))))), ?_⟩
  obtain ⟨L, pl⟩ := i
  dsimp only [aBet] at ha
  obtain ⟨W, ⟨hnd, h24⟩, v, w1, rfl, hv, hw⟩ := ha
  dsimp only at q hv hw
  refine q_asg (R := rD kN rB) (ev_dcM (R := rN) (RK := rN) (xs := pl) (ky := fun p => p) (f := fun _ => true) inj_N key_N (ei_list (ev_var rfl hw)) (by omega) (by rw [List.map_id']; exact hnd) fun x hx G2 u e2 r => ?_) e fun u1 G1 H1 n1 r1 => ?_
  · cases r
    exact ⟨_, tg_name, rfl, ev_var rfl rfl, ev_bl⟩
  have hkeys : (pl.map fun x => (x, true)).map (·.1) = pl := by rw [List.map_map]; exact List.map_id' _
  refine q_newT n1.s fun d H2 n2 own2 => ?_
  refine q_for (ei_list (R := rEnd) (P := fun y => IsEnds L y) (ev_lc0 W (ev_var rfl ((rLog K).ex (n1.g.trans n2.g) hv)))) n2.s (fun es G3 H3 hes n3 => ?_)
  refine ⟨fun k σ' G' H' => Nxt G H G' H' ∧ (∃ a4 a5 a7 a8, σ' = [some v, some w1, some u1, some (.ref d), a4, a5, none, a7, a8]) ∧ ∃ us ps, Own H1 G' H' d (.dT us) ∧ Pd (Ent kSS rB G') us ps ∧ ps.length ≤ k ∧ ∀ x y, (x, y) ∈ ps.map (·.1) ↔ ∃ a b, ((a, b), x, y) ∈ es.take k ∧ a ∈ pl ∧ b ∈ pl, ⟨(n1.trans n2).trans n3, ⟨_, _, _, _, rfl⟩, [], [], own2.nxt n3, .nil, Nat.le_refl _, by simp⟩, ?_, ?_⟩
  · rintro k z σ' G' H' hz e1 e2 ⟨nn, ⟨a4, a5, a7, a8, rfl⟩, us, ps, own, pu, hlen, hmem⟩ w2 G4 H4 n4 ⟨t, v1, v2, v3, rfl, ht, h1, h2, h3⟩
    obtain ⟨t2, u2, u3, rfl, ht2, h4, h5⟩ := h1
    cases h2; cases h3; cases h4; cases h5
    have hk : k < es.length := (List.getElem?_eq_some_iff.mp hz).1
    have hel := hes.len
    have take1 : es.take (k + 1) = es.take k ++ [z] := by rw [List.take_add_one, hz]; rfl
    refine tg_tup3 ht (tg_tup2 ht2 tg_name tg_name) tg_name tg_name H4 n4.s _ ?_
    have hd := rD_r ((rD kN rB).ex ((n2.g.trans n3.g).trans (e1.trans n4.g)) r1)
    refine s_if (b := decide (z.1.1 ∈ pl) && decide (z.1.2 ∈ pl)) (et_and (et_B (ev_val (ev_din (RK := rN) inj_N key_N (ev_var rfl rfl) (ev_var rfl hd)) (by rw [hkeys]))) (fun _ => et_B (ev_val (ev_din (RK := rN) inj_N key_N (ev_var rfl rfl) (ev_var rfl hd)) (by rw [hkeys])))) n4.s (fun hb G5 H5 n5 => ?_) (fun hb G5 H5 n5 => ?_)
    · rw [Bool.and_eq_true, decide_eq_true_eq, decide_eq_true_eq] at hb
      have pul := pd_len pu
      refine s_dputT (R := rB) (RK := rT2 rS rS) (kf := kSS) (x := (z.2.1, z.2.2)) (PA := fun b => b = true) key_SS ((own.nxt n4).nxt n5) rfl ev_bl (ev_tup2D (ev_var rfl rfl) (ev_var rfl rfl)) n5.s (by omega) fun v6 G6 H6 y n6 r6 p6 own6 => ?_
      subst p6
      refine ⟨G6, (e1.trans n4.g).trans (n5.g.trans n6.g), n6.s.mut own6.g, (((nn.trans n4).trans n5).trans n6).mut (n1.h.free own6.s) own6.g, ⟨_, _, _, _, rfl⟩, _, _, own6, pd_put inj_SS (ent_ex (n4.g.trans (n5.g.trans n6.g)) pu) r6, ?_, fun x y => ?_⟩
      · rw [put_len]; split <;> omega
      · rw [mem_put_keys, hmem, take1]
        constructor
        · rintro (⟨a, b, h1, h2⟩ | h)
          · exact ⟨a, b, List.mem_append_left _ h1, h2⟩
          · cases h
            exact ⟨z.1.1, z.1.2, List.mem_append_right _ (List.mem_singleton.mpr rfl), hb⟩
        · rintro ⟨a, b, h1, h2⟩
          rcases List.mem_append.mp h1 with h1 | h1
          · exact .inl ⟨a, b, h1, h2⟩
          · have h3 := List.mem_singleton.mp h1
            right
            rw [← h3]
    · refine ⟨G5, (e1.trans n4.g).trans n5.g, n5.s, (nn.trans n4).trans n5, ⟨_, _, _, _, rfl⟩, us, ps, (own.nxt n4).nxt n5, ent_ex (n4.g.trans n5.g) pu, by omega, fun x y => ?_⟩
      rw [hmem, take1]
      constructor
      · rintro ⟨a, b, h1, h2⟩
        exact ⟨a, b, List.mem_append_left _ h1, h2⟩
      · rintro ⟨a, b, h1, h2⟩
        rcases List.mem_append.mp h1 with h1 | h1
        · exact ⟨a, b, h1, h2⟩
        · have h3 := List.mem_singleton.mp h1
          rw [← h3] at hb
          rw [decide_eq_true h2.1, decide_eq_true h2.2] at hb
          cases hb
  · rintro σ' G' H' e1 e2 ⟨nn, ⟨a4, a5, a7, a8, rfl⟩, us, ps, own, pu, hlen, hmem⟩
    rw [List.take_length] at hmem
    have hlk : ∀ x y, prR ps x y ↔ RB.LkR L (fun p => p ∈ pl) x y := fun x y => by
      refine (hmem x y).trans ?_
      constructor
      · rintro ⟨a, b, h1, h2, h3⟩
        exact ⟨a, b, h2, h3, (hes.mem _ _ _ _).mp h1⟩
      · rintro ⟨a, b, h2, h3, h1⟩
        exact ⟨a, b, (hes.mem _ _ _ _).mpr h1, h2, h3⟩
    have hin : ∀ p ∈ ps.map (·.1), p.1 ∈ L.items ∧ p.2 ∈ L.items := fun p hp => by
      obtain ⟨a, b, _, _, j, g, h, d, e5, e6, _⟩ := (hlk p.1 p.2).mp hp
      have h1 := W.eok _ (List.mem_of_getElem? e5)
      have h2 := W.eok _ (List.mem_of_getElem? e6)
      exact ⟨h1.2.1, h2.2.1⟩
    refine s_retP (R := rD kS (rL rS)) (PA := fun y => IsB L.items (Relation.TransGen (prR ps)) y) (ev_call2 (R := rL rS) (S := rDT kSS rB) (PB := fun y => y = ps) (ev_lp W (ev_var rfl ((rLog K).ex (nn.g.trans (Ex.new own.g)) hv)) "item_names" (by intros; rfl)) (ev_var rfl (own_dictT own pu)) fun G3 v1 x1 w1 y1 e3 r1 p1 r2 p2 => ?_) (own.told e2) fun v5 G5 H5 y n5 r5 h5 => q v5 G5 H5 y ((nn.tell (n1.h.free own.s) own.h own.g).trans n5) r5 (h5.congr fun x _ y => RB.tg_iff hlk x y)
    subst p2
    have p1 : x1 = L.items := p1
    subst p1
    exact mkSp_use (args := aRch) (L.items, y1) ⟨⟨W.ind, W.ilen, hin⟩, v1, w1, rfl, r1, r2⟩)
end
end FW
/-! More readings: two fors in a comprehension; the dict of what is better. -/
namespace FW
open PySem PySem.Spec PyProof.Rows L2 Hd
theorem len_flatM {α β : Type} {f : α → List β} {n : Nat} : ∀ xs : List α, (∀ a ∈ xs, (f a).length ≤ n) → (xs.flatMap f).length ≤ xs.length * n
  | [], _ => by simp
  | a :: r, h => by
    rw [List.flatMap_cons, List.length_append, List.length_cons, Nat.add_mul]
    have := len_flatM r fun b hb => h b (List.mem_cons_of_mem _ hb)
    have := h a List.mem_cons_self
    omega
section
variable {κ α β γ : Type} [DecidableEq κ] {R : Rp α} {S : Rp β} {T : Rp γ} {RK : Rp κ} {σ : L2.St} {G H : Hp} {te : TE} {K : PySem.W.Frag} {g g1 : TG}
theorem ev_lc2 {wi wi1 : TI} {vs vs1 : List Nat} {xs : List α} {zs : α → List β} {f : α → β → γ} (hi : EvI R wi σ G (fun ys => ys = xs)) (hl : xs.length ≤ 300) (hz : ∀ x ∈ xs, (zs x).length ≤ 300)
    (hb : ∀ x, x ∈ xs → ∀ G2 v, Ex G G2 → R.is G2 v x → ∃ σ2, Tg g v (wipe σ vs) G2 σ2 ∧ wipe σ2 vs = wipe σ vs ∧ EvI S wi1 σ2 G2 (fun ys => ys = zs x) ∧
      ∀ z, z ∈ zs x → ∀ G3 w, Ex G2 G3 → S.is G3 w z → ∃ σ3, Tg g1 w (wipe σ2 vs1) G3 σ3 ∧ wipe σ3 vs1 = wipe σ2 vs1 ∧ EvD T te σ3 G3 (f x z)) :
    EvD (rL T) (tLc2 wi g tYes wi1 g1 tYes te vs vs1) σ G (xs.flatMap fun x => (zs x).map (f x)) := fun H e Q q => hi H e _ fun J G1 H1 xs' n1 px w D hD => by
  subst px
  have nm := Nxt.mut (o := .lst []) n1 (n1.h.free hD) (n1.s.free hD)
  have big : (100000 : Nat) < sizeLine := by decide
  refine ⟨fun i m H' => m = xs'.length - i ∧ i ≤ xs'.length ∧ ∃ G' us, Nxt G H G' H' ∧ Ex G1 G' ∧ Own H G' H' D (.lst us) ∧ Pd (T.is G') us ((xs'.take i).flatMap fun x => (zs x).map (f x)),
    ⟨xs'.length, by simp, Nat.zero_le _, G1, [], nm, Ex.refl _, ⟨n1.h.free hD, n1.s.free hD, upd_same⟩, .nil⟩, ?_⟩
  rintro i m H' ⟨rfl, hi', G', us, n, e1, own, pu⟩
  by_cases hlt : i < xs'.length
  · obtain ⟨hgo, hy⟩ := w.2 i _ (List.getElem?_eq_getElem hlt) H' G' e1 n.s
    refine .inr ⟨hgo, _, fun H'' z => ⟨xs'.length - (i + 1), by omega, rfl, hlt, z⟩, fun v H'' hv => ?_⟩
    obtain ⟨G2, n2, rv⟩ := hy v H'' hv
    have nn := n.trans n2
    have own2 := own.nxt n2
    obtain ⟨σ2, hg, hw, hin, he⟩ := hb xs'[i] (List.getElem_mem hlt) G2 v nn.g rv
    refine hg H'' n2.s _ ⟨hw, ?_⟩
    unfold tYes
    dsimp only
    rw [if_pos rfl]
    refine hin H'' n2.s _ fun J1 G3 H3 ys n3 py w1 => ?_
    have nn3 := nn.trans n3
    refine ⟨fun j k H5 => k = ys.length - j ∧ j ≤ ys.length ∧ ∃ G5 us, Nxt G H G5 H5 ∧ Ex G3 G5 ∧ Own H G5 H5 D (.lst us) ∧ Pd (T.is G5) us (((xs'.take i).flatMap fun x => (zs x).map (f x)) ++ (ys.take j).map (f xs'[i])),
      ⟨ys.length, by simp, Nat.zero_le _, G3, us, nn3, Ex.refl _, own2.nxt n3, by rw [List.take_zero, List.map_nil, List.append_nil]; exact pd_mono (fun _ _ => T.ex (n2.g.trans n3.g)) pu⟩, ?_⟩
    rintro j k H5 ⟨rfl, hj', G5, us, n5, e5, own5, pu5⟩
    by_cases hjl : j < ys.length
    · obtain ⟨hgo1, hy1⟩ := w1.2 j _ (List.getElem?_eq_getElem hjl) H5 G5 e5 n5.s
      refine .inr ⟨hgo1, _, fun H'' z => ⟨ys.length - (j + 1), by omega, rfl, hjl, z⟩, fun v1 H6 hv1 => ?_⟩
      obtain ⟨G6, n6, rv1⟩ := hy1 v1 H6 hv1
      obtain ⟨σ3, hg3, hw3, he3⟩ := he ys[j] (by rw [← py]; exact List.getElem_mem hjl) G6 v1 ((n3.g.trans e5).trans n6.g) rv1
      refine hg3 H6 n6.s _ ⟨hw3, ?_⟩
      rw [if_pos rfl]
      refine he3 H6 n6.s _ fun y G7 H7 z n7 rz fz => ?_
      subst fz
      have own7 := (own5.nxt n6).nxt n7
      refine ⟨us, own7.h, ?_, G7, us ++ [y], ((n5.trans n6).trans n7).mut own7.s own7.g, e5.trans (n6.g.trans n7.g), own7.set, ?_⟩
      · have h1 := pd_len pu5
        rw [List.length_append, List.length_map, List.length_take] at h1
        have h2 := len_flatM (n := 300) (f := fun x => (zs x).map (f x)) (xs'.take i) fun a ha => by rw [List.length_map]; exact hz a (List.mem_of_mem_take ha)
        rw [List.length_take] at h2
        have h3 := hz xs'[i] (List.getElem_mem hlt)
        rw [← py] at h3
        omega
      · have et : ys.take (j + 1) = ys.take j ++ [ys[j]] := by rw [List.take_add_one, List.getElem?_eq_getElem hjl]; rfl
        rw [et, List.map_append, ← List.append_assoc]
        exact pd_snoc (pd_mono (fun _ _ => T.ex (n6.g.trans n7.g)) pu5) rz
    · refine .inl ⟨w1.1 j H5 (e5.trans n5.s) (by omega), ?_⟩
      refine ⟨G5, us, n5, (e1.trans n2.g).trans (n3.g.trans e5), own5, ?_⟩
      have ej : ys.take j = ys := List.take_of_length_le (by omega)
      rw [ej, py] at pu5
      have et : xs'.take (i + 1) = xs'.take i ++ [xs'[i]] := by rw [List.take_add_one, List.getElem?_eq_getElem hlt]; rfl
      rw [et, List.flatMap_append, List.flatMap_singleton]
      exact pu5
  · refine .inl ⟨w.1 i H' (e1.trans n.s) (by omega), ?_⟩
    rw [List.take_of_length_le (by omega)] at pu
    have n3 := n.tell own.s own.h own.g
    exact q _ _ _ _ n3 ⟨D, us, rfl, upd_same, pd_mono (fun _ _ => T.ex (Ex.new own.g)) pu⟩ rfl
/-! ### locked -/
theorem lk_dict {kf : κ → Key} (k : Lk R) {G : Hp} {v : V} {xs : List (κ × α)} (h : (rD kf R).is G v xs) : ∃ d kvs, v = .ref d ∧ G d = some (.dK kvs) ∧ Pd (Ent kf R G) kvs xs := h
theorem frz_dr {kf : κ → Key} (k : Lk R) {d : Addr} {kvs : List (Key × V)} {xs : List (κ × α)} {od : Obj} (hd : G d = some (.dK kvs)) (hp : Pd (Ent kf R G) kvs xs) : (rDr kf R).is (upd G d (.frz od (.dK kvs))) (.ref d) xs :=
  ⟨d, kvs, rfl, .inr ⟨od, upd_same⟩, pd_mono (fun _ _ h => ⟨h.1, k (Le.lock hd rfl) h.2⟩) hp⟩
theorem frz_keys {kf : κ → Key} {d : Addr} {kvs : List (Key × V)} {xs : List (κ × α)} (hp : Pd (Ent kf R G) kvs xs) : Pd (fun (p : Key × V) (q : κ × α) => p.1 = kf q.1) kvs xs := pd_mono (fun _ _ h => h.1) hp
def ringB (items : List Str) (ds : List (Str × List Str)) : Bool := (items.map fun x => decide (x ∈ (look ds x).getD [])).any id
theorem ringB_iff {items : List Str} {F : Str → Str → Prop} {ds : List (Str × List Str)} (hB : IsB items F ds) (hF : ∀ x, F x x → x ∈ items) : ringB items ds = true ↔ ∃ x, F x x := by
  unfold ringB
  rw [List.any_eq_true]
  constructor
  · rintro ⟨b, hb, h⟩
    obtain ⟨x, hx, rfl⟩ := List.mem_map.mp hb
    have h := of_decide_eq_true h
    obtain ⟨ys, h1, _, h3⟩ := hB.row x hx
    rw [h1] at h
    exact ⟨x, (h3 x).mp h⟩
  · rintro ⟨x, h⟩
    have hx := hF x h
    obtain ⟨ys, h1, _, h3⟩ := hB.row x hx
    exact ⟨true, List.mem_map.mpr ⟨x, hx, by rw [h1]; exact decide_eq_true ((h3 x).mpr h)⟩, rfl⟩
/-- any([item in better[item] for item in better]) -/
theorem ev_ring {items : List Str} {F : Str → Str → Prop} {ds : List (Str × List Str)} {i j : Nat} {vs : List Nat} {v : V} (hB : IsB items F ds) (h6 : items.length ≤ 6) (hi : σ[i]? = some (some v)) (hv : (rD kS (rL rS)).is G v ds)
    (hσ : ∀ x : V, wipe ((wipe σ vs).set j (some x)) vs = wipe σ vs ∧ ((wipe σ vs).set j (some x))[j]? = some (some x) ∧ ((wipe σ vs).set j (some x))[i]? = some (some v)) :
    EvD rB (tCB (rAny K) (tCons (tLockE (tLc (iKeys (tVar i)) (gName j) tYes (tOp (L2.rIn K false) (tVar j) (tDGet (tVar i) (tVar j))) vs)) tNil)) σ G (ringB items ds) := by
  obtain ⟨d, kvs, rfl, hd, hp⟩ := hv
  refine ev_any (ev_lock (lk_L lk_B) hd rfl fun od => ?_)
  have hI : EvI rS (iKeys (tVar i)) σ (upd G d (.frz od (.dK kvs))) (fun ys => ys = items) := by
    have h := ei_keys (RK := rS) (kf := kS) (G := upd G d (.frz od (.dK kvs))) (σ := σ) (td := tVar i) (xs := ds) (fun _ _ => rfl) (ev_var (R := rV) hi rfl) upd_same (frz_keys (d := d) hp)
    rw [hB.keys] at h; exact h
  refine ev_lcM (R := rS) (f := fun x => decide (x ∈ (look ds x).getD [])) hI (by omega) fun x hx G2 u e2 r => ?_
  · cases r
    obtain ⟨h1, h2, h3⟩ := hσ (.str x)
    obtain ⟨ys, hr, _, _⟩ := hB.row x hx
    refine ⟨_, tg_name, h1, ?_⟩
    rw [hr]
    exact ev_inS (ev_var h2 rfl) (ev_dget (RK := rS) inj_S key_S (ev_var h3 ((rDr kS (rL rS)).ex e2 (frz_dr (lk_L lk_S) hd hp))) (ev_var h2 rfl) hr)
end
/-! ### links are by answers, from items to items -/
theorem lkr_ans {L : Log} {x y : Str} : RB.LkR L (fun p => p ∈ ansL L) x y ↔ RB.LkR L RB.All x y := by
  constructor
  · exact RB.LkR.mono fun _ _ => trivial
  · rintro ⟨p, q, _, _, l⟩
    have l' := l
    obtain ⟨j, g, h, d, e1, e2, _⟩ := l'
    exact ⟨p, q, mem_ansL.mpr (isAns_of e1).1, mem_ansL.mpr (isAns_of e2).1, l⟩
theorem bt_ans {L : Log} {x y : Str} : RB.Bt L (fun p => p ∈ ansL L) x y ↔ RB.Bt L RB.All x y := RB.tg_iff (fun _ _ => lkr_ans) x y
theorem WfL.lkr {L : Log} (W : WfL L) {P : Nat → Prop} {x y : Str} (h : RB.LkR L P x y) : x ∈ L.items ∧ y ∈ L.items := by
  obtain ⟨p, q, _, _, j, g, h, d, e1, e2, _⟩ := h
  exact ⟨(W.eok _ (List.mem_of_getElem? e1)).2.1, (W.eok _ (List.mem_of_getElem? e2)).2.1⟩
theorem tg_in {α : Type} {r : α → α → Prop} {P : α → Prop} (h : ∀ x y, r x y → P x ∧ P y) {x y : α} (t : Relation.TransGen r x y) : P x ∧ P y := by
  induction t with
  | single a => exact h _ _ a
  | tail _ a ih => exact ⟨ih.1, (h _ _ a).2⟩
theorem WfL.bt {L : Log} (W : WfL L) {P : Nat → Prop} {x y : Str} (h : RB.Bt L P x y) : x ∈ L.items ∧ y ∈ L.items := tg_in (P := fun x => x ∈ L.items) (fun _ _ => W.lkr) h
section
variable {K : PySem.W.Frag} {σ : L2.St} {G : Hp} {ta : TE} {L : Log} {E : XK}
/-- better_by(log, log.answers()) -/
theorem ev_better (W : WfL L) (h : EvD (rLog K) ta σ G L) : EvP (rD kS (rL rS)) (tCall (sp_better_by K) [] E (tCons ta (tCons (tMeth (cLog K) "answers" (sp_Log_answers K) [] E0 ta tNil) tNil))) σ G (fun ds => IsB L.items (RB.Bt L RB.All) ds) :=
  ev_call2 (S := rL rN) (PB := fun y => y = ansL L) h (ev_lm0 W h) fun G3 v1 x1 w1 y1 e3 r1 p1 r2 p2 => by
    subst p1 p2
    have := W.elen
    have := ansL_len (L := x1)
    exact (mkSp_use (args := aBet K) (x1, ansL x1) ⟨W, ⟨ansL_nodup, by dsimp only; omega⟩, v1, w1, rfl, r1, r2⟩).imp fun y hy => IsB.congr hy fun _ _ _ => bt_ans
end
end FW
/-! worse_than, covers_of, has_ring, has_all, check_alike, says_all, say_same. -/
namespace FW
open PySem PySem.Spec PyProof.Rows L2 Hd
def sLe (a b : Str) : Prop := a.cps.toList ≤ b.cps.toList
theorem sLe_of {a b : Str} (h : Spec.ltCps b.cps.toList a.cps.toList = false) : sLe a b := by
  rw [ltCps_eq] at h
  exact List.not_lt.mp (of_decide_eq_false h)
theorem rising_pw : ∀ (l : List Str) (p : Str), risingS p l = true → (p :: l).Pairwise sLe
  | [], p, _ => by simp
  | x :: r, p, h => by
    have h' : (!Spec.ltCps x.cps.toList p.cps.toList && risingS x r) = true := h
    rw [Bool.and_eq_true, Bool.not_eq_true'] at h'
    have ih := rising_pw r x h'.2
    have h1 := sLe_of h'.1
    refine List.pairwise_cons.mpr ⟨fun y hy => ?_, ih⟩
    rcases List.mem_cons.mp hy with rfl | hy
    · exact h1
    · exact List.le_trans h1 ((List.pairwise_cons.mp ih).1 y hy)
theorem sorted_pw : ∀ l : List Str, sortedS l = true → l.Pairwise sLe
  | [], _ => .nil
  | x :: r, h => rising_pw r x h
theorem sLe_anti {a b : Str} (h1 : sLe a b) (h2 : sLe b a) : a = b := by
  have h := List.le_antisymm h1 h2
  cases a with
  | mk a => cases b with
    | mk b => exact congrArg Str.mk (Array.toList_inj.mp h)
theorem sorted_uniq {ys zs : List Str} (p : ys.Perm zs) (h1 : sortedS ys = true) (h2 : sortedS zs = true) : ys = zs :=
  List.Perm.eq_of_pairwise (fun _ _ _ _ => sLe_anti) (sorted_pw ys h1) (sorted_pw zs h2) p
theorem strs_dp {K : PySem.W.Frag} {H : Hp} : ∀ xs : List Str, DpAll K H (xs.map V.str) (xs.map PyData.str)
  | [] => .nil
  | x :: r => .cons (.str x) (strs_dp r)
theorem strs_eqv : ∀ xs : List Str, PyData.eqvAll (xs.map PyData.str) (xs.map PyData.str) = true
  | [] => rfl
  | x :: r => by
    show ((x == x) && PyData.eqvAll (r.map PyData.str) (r.map PyData.str)) = true
    rw [strs_eqv r, beq_self_eq_true]; rfl
theorem strs_lay : ∀ xs : List Str, (∀ x ∈ xs, NameOk x) → PyData.canLayAll0 (xs.map PyData.str) = true
  | [], _ => rfl
  | x :: r, h => by
    show (PyData.strOk x && PyData.canLayAll0 (r.map PyData.str)) = true
    rw [strOk_of (h x List.mem_cons_self), strs_lay r fun y hy => h y (List.mem_cons_of_mem _ hy)]; rfl
theorem strs_depth : ∀ xs : List Str, PyData.depthAll (xs.map PyData.str) = 0
  | [] => rfl
  | x :: r => by
    show max 0 (PyData.depthAll (r.map PyData.str)) = 0
    rw [strs_depth r]; rfl
theorem strs_shaped {xs : List Str} (h : ∀ x ∈ xs, NameOk x) : SeqAt.shaped (.list (xs.map PyData.str)) = true := by
  show (PyData.canLayAll0 (xs.map PyData.str) && decide (PyData.depthAll (xs.map PyData.str) + 1 ≤ 64)) = true
  rw [strs_lay xs h, strs_depth]
  rfl
/-- b is a cover of a -/
def Cov (F : Str → Str → Prop) (a b : Str) : Prop := F a b ∧ ¬ ∃ m, F a m ∧ F m b
structure IsCov (F : Str → Str → Prop) (y : List (Str × Str)) : Prop where
  mem : ∀ a b, (a, b) ∈ y ↔ Cov F a b
  len : y.length ≤ 36
abbrev aLogR (K : PySem.W.Frag) : Log → Hp → List V → Prop := fun L G vs => WfL L ∧ (∀ x, ¬ RB.Bt L RB.All x x) ∧ ∃ v, vs = [v] ∧ (rLog K).is G v L
structure BOk (items : List Str) (F : Str → Str → Prop) (ds : List (Str × List Str)) : Prop where
  b : IsB items F ds
  six : items.length ≤ 6
  cl : ∀ x y, F x y → x ∈ items ∧ y ∈ items
abbrev aB1 : List Str × (Str → Str → Prop) × List (Str × List Str) → Hp → List V → Prop := fun i G vs => BOk i.1 i.2.1 i.2.2 ∧ ∃ v, vs = [v] ∧ (rD kS (rL rS)).is G v i.2.2
abbrev aB2 : List Str × ((Str → Str → Prop) × List (Str × List Str)) × ((Str → Str → Prop) × List (Str × List Str)) → Hp → List V → Prop := fun i G vs => (BOk i.1 i.2.1.1 i.2.1.2 ∧ BOk i.1 i.2.2.1 i.2.2.2) ∧ ∃ v w, vs = [v, w] ∧ (rD kS (rL rS)).is G v i.2.1.2 ∧ (rD kS (rL rS)).is G w i.2.2.2
/-- what has_all says -/
def HasAll (F F' : Str → Str → Prop) : Prop := (∃ x, F x x) ∨ ∀ x y, F' x y → F x y
abbrev aL2 (K : PySem.W.Frag) : Log × Log → Hp → List V → Prop := fun i G vs => (WfL i.1 ∧ WfL i.2 ∧ i.1.items = i.2.items) ∧ ∃ v w, vs = [v, w] ∧ (rLog K).is G v i.1 ∧ (rLog K).is G w i.2
theorem WfL.bok {L : Log} (W : WfL L) {ds : List (Str × List Str)} (h : IsB L.items (RB.Bt L RB.All) ds) : BOk L.items (RB.Bt L RB.All) ds := ⟨h, W.ilen, fun x y t => W.bt t⟩
section
variable {P : Program} {w : World} {K : PySem.W.Frag} {mg : Str → Option Value} {base : Heap}

abbrev N_worse_than : List Str := ["log", "better", "item", "worse"]
theorem sc_worse_than : FnScope N_worse_than ["log"] (defScope s_worse_than) := ⟨rfl, rfl, rfl, by decide +kernel, rfl, by decide +kernel, by decide +kernel⟩
theorem mk_worse_than (T : Tx K mg) {sp : Sp} (len : ∀ vs H Q E, sp vs H Q E → vs.length = 1)
    (hb : ∀ (cdv : Value) (A : Around) (outer : List Env) (s : Shared) (H : Hp) (vs : List V) (Q : VK) (E : XK), Room 9 (A.deeper (envOfC "worse_than" (defScope s_worse_than) s.heap.objs.size (He.ga K "worse_than") cdv)) → sp vs H Q E →
      ∃ t, PSs (cxOf CX0 P w K mg base N_worse_than "worse_than" (defScope s_worse_than) (He.ga K "worse_than") cdv A outer s H E).nox (defBody s_worse_than) t ∧ t { nx := fun _ H' => Q .non H', rt := Q } (start N_worse_than vs) H) : Cal P w K mg base 10 "worse_than" sp := by
  obtain ⟨fd, F⟩ := T.fn 10 rfl
  have b : Binds K fd ["log"] [] := F.binds fun _ _ _ _ _ _ us hl => match us, hl with | [_], _ => rfl
  exact ⟨_, fd, _, F.ok sc_worse_than len hb, T.glo 10 rfl, F.kp, b⟩
def sp_worse_than (K : PySem.W.Frag) : Sp := mkSp (aLog K) (rD kS (rL rS)) (fun L y => IsB L.items (fun a b => RB.Bt L RB.All b a) y)
theorem ln_worse_than {K : PySem.W.Frag} : ∀ vs H Q E, sp_worse_than K vs H Q E → vs.length = 1 := by
  rintro vs H Q E ⟨G, i, e, h, _⟩
  have h : (aLog K) i G vs := h
  obtain ⟨_, v, rfl, _⟩ := h; rfl
theorem ok_worse_than (T : Tx K mg) : Cal P w K mg base 10 "worse_than" (sp_worse_than K) := mk_worse_than T ln_worse_than (fun cdv A outer s H vs Q E hr h => by
  have hu := hu_of hr
  have nd := sc_worse_than.nd
  obtain ⟨G, i, e, ha, q⟩ := h
  refine ⟨_, pss_cons (ps_set (i := 1) nd rfl (Or.inr rfl) (pe_c (ok_better_by T) hr (pa_cons (pv 0) (pa_cons (pe_m00 (ok_Log_answers T) hr (pv 0)) pa_nil))))
      (pss_one (ps_ret (pe_dc (own := [("item", 2)]) (g := (gName 2)) (tt := tYes) rfl nd (k_iList (K := K) rfl (pe_p (ok_Log_item_names T) hr (pv 0))) (blkOk_by (by kernel_rfl)) (fun _ _ _ _ _ => pg_name (i := 2) nd rfl (by first | exact Or.inl rfl | exact Or.inr rfl)) (fun _ _ _ _ _ => pts_nil) (fun _ _ _ _ _ => pv 2) (fun _ _ _ _ _ => pe_lc (own := [("worse", 3)]) (g := (gName 3)) rfl nd (k_iList (K := K) rfl (pe_p (ok_Log_item_names T) hr (pv 0))) (blkOk_by (by kernel_rfl)) (fun _ _ _ _ _ => pg_name (i := 3) nd rfl (by first | exact Or.inl rfl | exact Or.inr rfl)) (fun _ _ _ _ _ => (pts_one (pt_cmpR (k_in (K := K) rfl) (pv 2) (pe_dget hu (pv 1) (pv 3) (fun _ _ => rfl)) rfl))) (fun _ _ _ _ _ => pv 3))))), ?_⟩
  obtain ⟨W, v, rfl, hv⟩ := ha
  have h6 := W.ilen
  refine q_asgP (ev_better W (ev_var rfl hv)) e fun vd G1 H1 ds n1 rd hB => ?_
  have hv1 := (rLog K).ex n1.g hv
  refine s_retP (R := rD kS (rL rS)) (PA := fun ys => ys = i.items.map fun x => (x, i.items.filter fun w => decide (x ∈ (look ds w).getD []))) (ev_dcM (R := rS) (RK := rS) (ky := fun x => x) (f := fun x => i.items.filter fun w => decide (x ∈ (look ds w).getD [])) inj_S key_S (ei_list (ev_lp W (ev_var rfl hv1) "item_names" (by intros; rfl))) (by omega) (by rw [List.map_id']; exact W.ind) fun x hx G2 u e2 r => ?_) n1.s fun v5 G5 H5 ys n5 r5 hy => q v5 G5 H5 ys (n1.trans n5) r5 ?_
  · cases r
    refine ⟨_, tg_name, rfl, ev_var rfl rfl, ev_val (ev_lcD (R := rS) (f := fun y => y) (p := fun w => decide (x ∈ (look ds w).getD [])) (ei_list (ev_lp W (ev_var rfl ((rLog K).ex e2 hv1)) "item_names" (by intros; rfl))) (by omega) fun y hy G3 u e3 r => ?_) (List.map_id' _)⟩
    cases r
    obtain ⟨zs, h1, _, _⟩ := hB.row y hy
    refine ⟨_, tg_name, rfl, et_test ?_, fun _ => ev_var rfl rfl⟩
    rw [h1]
    exact ev_inS (ev_var rfl rfl) (ev_dget (RK := rS) inj_S key_S (ev_var rfl (rD_r ((rD kS (rL rS)).ex (e2.trans e3) rd))) (ev_var rfl rfl) h1)
  · subst hy
    refine ⟨by rw [List.map_map]; exact List.map_id' _, fun x hx => ⟨_, look_of_mem (by rw [List.map_map]; exact (List.map_id' i.items).symm ▸ W.ind) (List.mem_map.mpr ⟨x, hx, rfl⟩), Nat.le_trans (List.length_filter_le _ _) h6, fun y => ?_⟩⟩
    rw [List.mem_filter, decide_eq_true_eq]
    constructor
    · rintro ⟨hy, h⟩
      obtain ⟨zs, h1, _, h3⟩ := hB.row y hy
      rw [h1] at h
      exact (h3 x).mp h
    · intro h
      have hy := (W.bt h).1
      obtain ⟨zs, h1, _, h3⟩ := hB.row y hy
      refine ⟨hy, ?_⟩
      rw [h1]
      exact (h3 x).mpr h)
abbrev N_covers_of : List Str := ["log", "better", "found", "item", "end", "middle"]
theorem sc_covers_of : FnScope N_covers_of ["log"] (defScope s_covers_of) := ⟨rfl, rfl, rfl, by decide +kernel, rfl, by decide +kernel, by decide +kernel⟩
theorem mk_covers_of (T : Tx K mg) {sp : Sp} (len : ∀ vs H Q E, sp vs H Q E → vs.length = 1)
    (hb : ∀ (cdv : Value) (A : Around) (outer : List Env) (s : Shared) (H : Hp) (vs : List V) (Q : VK) (E : XK), Room 9 (A.deeper (envOfC "covers_of" (defScope s_covers_of) s.heap.objs.size (He.ga K "covers_of") cdv)) → sp vs H Q E →
      ∃ t, PSs (cxOf CX0 P w K mg base N_covers_of "covers_of" (defScope s_covers_of) (He.ga K "covers_of") cdv A outer s H E).nox (defBody s_covers_of) t ∧ t { nx := fun _ H' => Q .non H', rt := Q } (start N_covers_of vs) H) : Cal P w K mg base 10 "covers_of" sp := by
  obtain ⟨fd, F⟩ := T.fn 11 rfl
  have b : Binds K fd ["log"] [] := F.binds fun _ _ _ _ _ _ us hl => match us, hl with | [_], _ => rfl
  exact ⟨_, fd, _, F.ok sc_covers_of len hb, T.glo 11 rfl, F.kp, b⟩
def sp_covers_of (K : PySem.W.Frag) : Sp := mkSp (aLogR K) (rL (rT2 rS rS)) (fun L y => IsCov (RB.Bt L RB.All) y)
theorem ln_covers_of {K : PySem.W.Frag} : ∀ vs H Q E, sp_covers_of K vs H Q E → vs.length = 1 := by
  rintro vs H Q E ⟨G, i, e, h, _⟩
  have h : (aLogR K) i G vs := h
  obtain ⟨_, _, v, rfl, _⟩ := h; rfl
theorem ok_covers_of (T : Tx K mg) : Cal P w K mg base 10 "covers_of" (sp_covers_of K) := mk_covers_of T ln_covers_of (fun cdv A outer s H vs Q E hr h => by
  have hu := hu_of hr
  have nd := sc_covers_of.nd
  obtain ⟨G, i, e, ha, q⟩ := h
  refine ⟨_, pss_cons (ps_set (i := 1) nd rfl (Or.inr rfl) (pe_c (ok_better_by T) hr (pa_cons (pv 0) (pa_cons (pe_m00 (ok_Log_answers T) hr (pv 0)) pa_nil))))
      (pss_cons (ps_if (pt_val (pe_callB (k_any (K := K) rfl rfl) (by rfl) (T.free 80 rfl) (by decide +kernel) (pa_cons (pe_lock (pe_lc (own := [("item", 3)]) (g := (gName 3)) (tt := tYes) rfl nd (pi_keys (pv 1)) (blkOk_by (by kernel_rfl)) (fun _ _ _ _ _ => pg_name (i := 3) nd rfl (by first | exact Or.inl rfl | exact Or.inr rfl)) (fun _ _ _ _ _ => pts_nil) (fun _ _ _ _ _ => pe_cmpR (k_in (K := K) rfl) (pv 3) (pe_dget hu (pv 1) (pv 3) (fun _ _ => rfl)) rfl))) pa_nil))) (pss_one (ps_never)) (pss_nil))
      (pss_cons (ps_set (i := 2) nd rfl (Or.inl rfl) (pe_lst (pa_nil)))
      (pss_cons (ps_for PassesOwn.never rfl (k_iList (K := K) rfl (pe_p (ok_Log_item_names T) hr (pv 0))) (pg_name (i := 3) nd rfl (Or.inl rfl)) (pss_one (ps_for PassesOwn.never rfl (k_iList (K := K) rfl (pe_dget hu (pv 1) (pv 3) (fun _ _ => rfl))) (pg_name (i := 4) nd rfl (Or.inr rfl)) (pss_one (ps_if (pt_not (pt_val (pe_callB (k_any (K := K) rfl rfl) (by rfl) (T.free 80 rfl) (by decide +kernel) (pa_cons (pe_lc (own := [("middle", 5)]) (g := (gName 5)) (tt := tYes) rfl nd (k_iList (K := K) rfl (pe_dget hu (pv 1) (pv 3) (fun _ _ => rfl))) (blkOk_by (by kernel_rfl)) (fun _ _ _ _ _ => pg_name (i := 5) nd rfl (by first | exact Or.inl rfl | exact Or.inr rfl)) (fun _ _ _ _ _ => pts_nil) (fun _ _ _ _ _ => pe_cmpR (k_in (K := K) rfl) (pv 4) (pe_dget hu (pv 1) (pv 5) (fun _ _ => rfl)) rfl)) pa_nil)))) (pss_one (ps_expr (pe_bm PySem.F.plainAttrs_list PySem.F.slot_list_append PySem.F.type_list_append mt_append (pv 2) (pa_cons (pe_tup (pa_cons (pv 3) (pa_cons (pv 4) pa_nil))) pa_nil)))) (pss_nil))))))
      (pss_one (ps_ret (pv 2)))))), ?_⟩
  obtain ⟨W, hno, v, rfl, hv⟩ := ha
  have h6 := W.ilen
  refine q_asgP (ev_better W (ev_var rfl hv)) e fun vd G1 H1 ds n1 rd hB => ?_
  have hring : ringB i.items ds = false := by
    cases c : ringB i.items ds with
    | false => rfl
    | true =>
      obtain ⟨x, hx⟩ := (ringB_iff hB fun x t => (W.bt t).1).mp c
      exact absurd hx (hno x)
  refine q_if1 (et_B (ev_val (ev_ring hB h6 rfl rd fun x => ⟨rfl, rfl, rfl⟩) hring)) n1.s (fun hb => by cases hb) fun _ G2 H2 n2 => ?_
  refine q_newL n2.s fun l H3 n3 own3 => ?_
  have hv3 := (rLog K).ex (n1.g.trans n2.g) hv
  refine q_for (ei_list (R := rS) (P := fun ys => ys = i.items) (ev_lp W (ev_var rfl hv3) "item_names" (by intros; rfl))) n3.s (fun ys G4 H4 hy n4 => ?_)
  subst hy
  have rd4 := (rD kS (rL rS)).ex (n2.g.trans n4.g) rd
  refine ⟨fun k σ' G' H' => Nxt G H G' H' ∧ (∃ a b, σ' = [some v, some vd, some (.ref l), a, b, none]) ∧ ∃ us ys, Own H2 G' H' l (.lst us) ∧ Pd ((rT2 rS rS).is G') us ys ∧ ys.length ≤ k * 6 ∧ ∀ a b, (a, b) ∈ ys ↔ a ∈ i.items.take k ∧ Cov (RB.Bt i RB.All) a b, ⟨((n1.trans n2).trans n3).trans n4, ⟨_, _, rfl⟩, [], [], own3.nxt n4, .nil, by simp, by simp⟩, ?_, ?_⟩
  · rintro k x σ' G' H' hx e1 e2 ⟨nn, ⟨a, b, rfl⟩, us, ys, own, pu, hlen, hmem⟩ w1 G5 H5 n5 rfl
    have hxm := List.mem_of_getElem? hx
    have hk : k < i.items.length := (List.getElem?_eq_some_iff.mp hx).1
    have take1 : i.items.take (k + 1) = i.items.take k ++ [x] := by rw [List.take_add_one, hx]; rfl
    have hxt : x ∉ i.items.take k := fun c => by
      obtain ⟨j, hj⟩ := List.mem_iff_getElem?.mp c
      rw [List.getElem?_take] at hj
      by_cases hij : j < k
      · rw [if_pos hij] at hj
        have := (List.getElem?_inj (by omega) W.ind).mp (hj.trans hx.symm)
        omega
      · rw [if_neg hij] at hj; cases hj
    obtain ⟨row, hr1, hr2, hr3⟩ := hB.row x hxm
    have rd5 := (rD kS (rL rS)).ex (e1.trans n5.g) rd4
    refine s_for (ei_list (R := rS) (P := fun zs => zs = row) (ev_dget (RK := rS) inj_S key_S (ev_var rfl (rD_r rd5)) (ev_var rfl rfl) hr1)) n5.s (fun zs G6 H6 hz n6 => ?_)
    subst hz
    refine ⟨fun j σ' G' H' => Nxt G H G' H' ∧ (∃ b, σ' = [some v, some vd, some (.ref l), some (.str x), b, none]) ∧ ∃ us ys, Own H2 G' H' l (.lst us) ∧ Pd ((rT2 rS rS).is G') us ys ∧ ys.length ≤ k * 6 + j ∧ ∀ a b, (a, b) ∈ ys ↔ (a ∈ i.items.take k ∧ Cov (RB.Bt i RB.All) a b) ∨ (a = x ∧ b ∈ zs.take j ∧ Cov (RB.Bt i RB.All) a b), ⟨(nn.trans n5).trans n6, ⟨_, rfl⟩, us, ys, (own.nxt n5).nxt n6, pd_mono (fun _ _ => (rT2 rS rS).ex (n5.g.trans n6.g)) pu, by omega, fun a b => by rw [hmem]; simp⟩, ?_, ?_⟩
    · rintro j y σ' G' H' hy e3 e4 ⟨nn2, ⟨b, rfl⟩, us, ys, own, pu, hlen, hmem⟩ w2 G7 H7 n7 rfl
      have hym := List.mem_of_getElem? hy
      have hj : j < zs.length := (List.getElem?_eq_some_iff.mp hy).1
      have takej : zs.take (j + 1) = zs.take j ++ [y] := by rw [List.take_add_one, hy]; rfl
      have rd7 := (rD kS (rL rS)).ex ((n6.g.trans e3).trans n7.g) rd5
      have own7 := own.nxt n7
      have pu7 := pd_mono (fun _ _ => (rT2 rS rS).ex n7.g) pu
      have hbt : RB.Bt i RB.All x y := (hr3 y).mp hym
      refine s_if (et_not (et_B (ev_any (bs := zs.map fun m => decide (y ∈ (look ds m).getD [])) (ev_lcM (R := rS) (f := fun m => decide (y ∈ (look ds m).getD [])) (ei_list (ev_dget (RK := rS) inj_S key_S (ev_var rfl (rD_r rd7)) (ev_var rfl rfl) hr1)) (by omega) fun m hm G8 u e8 r => ?_)))) n7.s (fun hb G8 H8 n8 => ?_) (fun hb G8 H8 n8 => ?_)
      · cases r
        have hmi := (W.bt ((hr3 m).mp hm)).2
        obtain ⟨rm, hm1, _, _⟩ := hB.row m hmi
        refine ⟨_, tg_name, rfl, ?_⟩
        rw [hm1]
        exact ev_inS (ev_var rfl rfl) (ev_dget (RK := rS) inj_S key_S (ev_var rfl (rD_r ((rD kS (rL rS)).ex e8 rd7))) (ev_var rfl rfl) hm1)
      · have hcov : Cov (RB.Bt i RB.All) x y := ⟨hbt, fun ⟨m, h1, h2⟩ => by
          have hm := (hr3 m).mpr h1
          obtain ⟨rm, hm1, _, hm3⟩ := hB.row m (W.bt h1).2
          have : (zs.map fun m => decide (y ∈ (look ds m).getD [])).any id = true := List.any_eq_true.mpr ⟨true, List.mem_map.mpr ⟨m, hm, by rw [hm1]; exact decide_eq_true ((hm3 y).mpr h2)⟩, rfl⟩
          rw [this] at hb
          cases hb⟩
        have pul := pd_len pu7
        refine s_app (own7.nxt n8) rfl (R := rT2 rS rS) (PA := fun z => z = (x, y)) (ev_tup2D (ev_var rfl rfl) (ev_var rfl rfl)) n8.s (by omega) fun v9 G9 H9 z n9 r9 p9 own9 => ?_
        subst p9
        refine ⟨G9, (e3.trans n7.g).trans (n8.g.trans n9.g), n9.s.mut own9.g, (((nn2.trans n7).trans n8).trans n9).mut ((n1.trans n2).h.free own9.s) own9.g, ⟨_, rfl⟩, us ++ [v9], ys ++ [(x, y)], own9, pd_snoc (pd_mono (fun _ _ => (rT2 rS rS).ex (n8.g.trans n9.g)) pu7) r9, ?_, fun a b => ?_⟩
        · rw [List.length_append, List.length_singleton]; omega
        · rw [List.mem_append, List.mem_singleton, hmem, takej]
          constructor
          · rintro ((h | ⟨h1, h2, h3⟩) | h)
            · exact .inl h
            · exact .inr ⟨h1, List.mem_append_left _ h2, h3⟩
            · cases h
              exact .inr ⟨rfl, List.mem_append_right _ (List.mem_singleton.mpr rfl), hcov⟩
          · rintro (h | ⟨h1, h2, h3⟩)
            · exact .inl (.inl h)
            · rcases List.mem_append.mp h2 with h2 | h2
              · exact .inl (.inr ⟨h1, h2, h3⟩)
              · rw [h1, List.mem_singleton.mp h2]; exact .inr rfl
      · refine ⟨G8, (e3.trans n7.g).trans n8.g, n8.s, (nn2.trans n7).trans n8, ⟨_, rfl⟩, us, ys, own7.nxt n8, pd_mono (fun _ _ => (rT2 rS rS).ex n8.g) pu7, by omega, fun a b => ?_⟩
        rw [hmem, takej]
        constructor
        · rintro (h | ⟨h1, h2, h3⟩)
          · exact .inl h
          · exact .inr ⟨h1, List.mem_append_left _ h2, h3⟩
        · rintro (h | ⟨h1, h2, h3⟩)
          · exact .inl h
          · rcases List.mem_append.mp h2 with h2 | h2
            · exact .inr ⟨h1, h2, h3⟩
            · rw [h1, List.mem_singleton.mp h2] at h3
              rw [Bool.not_eq_false', List.any_eq_true] at hb
              obtain ⟨c, hc, hct⟩ := hb
              obtain ⟨m, hm, rfl⟩ := List.mem_map.mp hc
              have hct : decide (y ∈ (look ds m).getD []) = true := hct
              have hxm2 := (hr3 m).mp hm
              obtain ⟨rm, hm1, _, hm3⟩ := hB.row m (W.bt hxm2).2
              rw [hm1] at hct
              exact absurd ⟨m, hxm2, (hm3 y).mp (of_decide_eq_true hct)⟩ h3.2
    · rintro σ' G' H' e3 e4 ⟨nn2, ⟨b, rfl⟩, us, ys, own, pu, hlen, hmem⟩
      rw [List.take_length] at hmem
      refine ⟨G', (e1.trans n5.g).trans (n6.g.trans e3), e4, nn2, ⟨_, _, rfl⟩, us, ys, own, pu, by omega, fun a b => ?_⟩
      rw [hmem, take1, List.mem_append, List.mem_singleton]
      constructor
      · rintro (⟨h1, h2⟩ | ⟨h1, h2, h3⟩)
        · exact ⟨.inl h1, h2⟩
        · exact ⟨.inr h1, h3⟩
      · rintro ⟨h1 | h1, h2⟩
        · exact .inl ⟨h1, h2⟩
        · subst h1
          exact .inr ⟨rfl, (hr3 b).mpr h2.1, h2⟩
  · rintro σ' G' H' e1 e2 ⟨nn, ⟨a, b, rfl⟩, us, ys, own, pu, hlen, hmem⟩
    rw [List.take_length] at hmem
    refine s_retL nn own (n1.trans n2).h pu rfl fun v5 G5 H5 n5 r5 => q v5 G5 H5 ys n5 r5 ⟨fun a b => ?_, by omega⟩
    rw [hmem]
    exact ⟨fun h => h.2, fun h => ⟨(W.bt h.1).1, h⟩⟩)
abbrev N_has_ring : List Str := ["better", "item"]
theorem sc_has_ring : FnScope N_has_ring ["better"] (defScope s_has_ring) := ⟨rfl, rfl, rfl, by decide +kernel, rfl, by decide +kernel, by decide +kernel⟩
theorem mk_has_ring (T : Tx K mg) {sp : Sp} (len : ∀ vs H Q E, sp vs H Q E → vs.length = 1)
    (hb : ∀ (cdv : Value) (A : Around) (outer : List Env) (s : Shared) (H : Hp) (vs : List V) (Q : VK) (E : XK), Room 0 (A.deeper (envOfC "has_ring" (defScope s_has_ring) s.heap.objs.size (He.ga K "has_ring") cdv)) → sp vs H Q E →
      ∃ t, PSs (cxOf CX0 P w K mg base N_has_ring "has_ring" (defScope s_has_ring) (He.ga K "has_ring") cdv A outer s H E).nox (defBody s_has_ring) t ∧ t { nx := fun _ H' => Q .non H', rt := Q } (start N_has_ring vs) H) : Cal P w K mg base 1 "has_ring" sp := by
  obtain ⟨fd, F⟩ := T.fn 20 rfl
  have b : Binds K fd ["better"] [] := F.binds fun _ _ _ _ _ _ us hl => match us, hl with | [_], _ => rfl
  exact ⟨_, fd, _, F.ok sc_has_ring len hb, T.glo 19 rfl, F.kp, b⟩
def sp_has_ring (K : PySem.W.Frag) : Sp := mkSp (aB1) (rB) (fun i y => (y = true ↔ ∃ x, i.2.1 x x))
theorem ln_has_ring {K : PySem.W.Frag} : ∀ vs H Q E, sp_has_ring K vs H Q E → vs.length = 1 := by
  rintro vs H Q E ⟨G, i, e, h, _⟩
  have h : (aB1) i G vs := h
  obtain ⟨_, v, rfl, _⟩ := h; rfl
theorem ok_has_ring (T : Tx K mg) : Cal P w K mg base 1 "has_ring" (sp_has_ring K) := mk_has_ring T ln_has_ring (fun cdv A outer s H vs Q E hr h => by
  have hu := hu_of hr
  have nd := sc_has_ring.nd
  obtain ⟨G, i, e, ha, q⟩ := h
  refine ⟨_, pss_one (ps_ret (pe_callB (k_any (K := K) rfl rfl) (by rfl) (T.free 80 rfl) (by decide +kernel) (pa_cons (pe_lock (pe_lc (own := [("item", 1)]) (g := (gName 1)) (tt := tYes) rfl nd (pi_keys (pv 0)) (blkOk_by (by kernel_rfl)) (fun _ _ _ _ _ => pg_name (i := 1) nd rfl (by first | exact Or.inl rfl | exact Or.inr rfl)) (fun _ _ _ _ _ => pts_nil) (fun _ _ _ _ _ => pe_cmpR (k_in (K := K) rfl) (pv 1) (pe_dget hu (pv 0) (pv 1) (fun _ _ => rfl)) rfl))) pa_nil))), ?_⟩
  obtain ⟨items, F, ds⟩ := i
  dsimp only [aB1] at ha
  obtain ⟨B, v, rfl, hv⟩ := ha
  dsimp only at q hv
  exact s_ret (ev_ring B.b B.six rfl hv fun x => ⟨rfl, rfl, rfl⟩) e fun v5 G5 H5 n5 r5 => q v5 G5 H5 _ n5 r5 (ringB_iff B.b fun x h => (B.cl x x h).1))
abbrev N_has_all : List Str := ["better", "others", "item", "end"]
theorem sc_has_all : FnScope N_has_all ["better", "others"] (defScope s_has_all) := ⟨rfl, rfl, rfl, by decide +kernel, rfl, by decide +kernel, by decide +kernel⟩
theorem mk_has_all (T : Tx K mg) {sp : Sp} (len : ∀ vs H Q E, sp vs H Q E → vs.length = 2)
    (hb : ∀ (cdv : Value) (A : Around) (outer : List Env) (s : Shared) (H : Hp) (vs : List V) (Q : VK) (E : XK), Room 1 (A.deeper (envOfC "has_all" (defScope s_has_all) s.heap.objs.size (He.ga K "has_all") cdv)) → sp vs H Q E →
      ∃ t, PSs (cxOf CX0 P w K mg base N_has_all "has_all" (defScope s_has_all) (He.ga K "has_all") cdv A outer s H E).nox (defBody s_has_all) t ∧ t { nx := fun _ H' => Q .non H', rt := Q } (start N_has_all vs) H) : Cal P w K mg base 2 "has_all" sp := by
  obtain ⟨fd, F⟩ := T.fn 21 rfl
  have b : Binds K fd ["better", "others"] [] := F.binds fun _ _ _ _ _ _ us hl => match us, hl with | [_, _], _ => rfl
  exact ⟨_, fd, _, F.ok sc_has_all len hb, T.glo 20 rfl, F.kp, b⟩
def sp_has_all (K : PySem.W.Frag) : Sp := mkSp (aB2) (rB) (fun i y => (y = true ↔ HasAll i.2.1.1 i.2.2.1))
theorem ln_has_all {K : PySem.W.Frag} : ∀ vs H Q E, sp_has_all K vs H Q E → vs.length = 2 := by
  rintro vs H Q E ⟨G, i, e, h, _⟩
  have h : (aB2) i G vs := h
  obtain ⟨_, v, w, rfl, _⟩ := h; rfl
theorem ok_has_all (T : Tx K mg) : Cal P w K mg base 2 "has_all" (sp_has_all K) := mk_has_all T ln_has_all (fun cdv A outer s H vs Q E hr h => by
  have hu := hu_of hr
  have nd := sc_has_all.nd
  obtain ⟨G, i, e, ha, q⟩ := h
  refine ⟨_, pss_one (ps_ret (pe_or (pe_c (ok_has_ring T) hr (pa_cons (pv 0) pa_nil)) (pe_one (pe_callB (k_all (K := K) rfl rfl) (by rfl) (T.free 79 rfl) (by decide +kernel) (pa_cons (pe_lock (pe_lc2 (own := [("item", 2), ("end", 3)]) (vs1 := [3]) (g := (gName 2)) (g1 := (gName 3)) (tt := tYes) (tt1 := tYes) rfl nd (pi_keys (pv 1)) (blkOk_by (by kernel_rfl)) (by decide) (fun _ _ _ _ _ => pg_name (i := 2) nd rfl (by first | exact Or.inl rfl | exact Or.inr rfl)) (fun _ _ _ _ _ => pts_nil) (fun _ _ _ _ _ => k_iList (K := K) rfl (pe_dget hu (pv 1) (pv 2) (fun _ _ => rfl))) (fun _ _ _ _ _ => pg_name (i := 3) nd rfl (by first | exact Or.inl rfl | exact Or.inr rfl)) (fun _ _ _ _ _ => pts_nil) (fun _ _ _ _ _ => pe_cmpR (k_in (K := K) rfl) (pv 3) (pe_dget hu (pv 0) (pv 2) (fun _ _ => rfl)) rfl))) pa_nil))))), ?_⟩
  obtain ⟨items, ⟨F, ds⟩, F', ds'⟩ := i
  dsimp only [aB2] at ha
  obtain ⟨⟨B, B'⟩, v, w1, rfl, hv, hw⟩ := ha
  dsimp only at q hv hw
  have h6 := B.six
  have key : ∀ b : Bool, (b = true ↔ ∃ x, F x x) → EvD rB (tOrV (tCall (sp_has_ring K) [] E0 (tCons (tVar 0) tNil)) (tCB (rAll K) (tCons (tLockE (tLc2 (iKeys (tVar 1)) (gName 2) tYes (iList K (tDGet (tVar 1) (tVar 2))) (gName 3) tYes (tOp (L2.rIn K false) (tVar 3) (tDGet (tVar 0) (tVar 2))) [2, 3] [3])) tNil))) (L2.start N_has_all [v, w1]) G (b || ((items.flatMap fun x => ((look ds' x).getD []).map fun y => decide (y ∈ (look ds x).getD [])).all id)) := fun b hb => by
    refine ev_orV ((ev_call1 (R := rD kS (rL rS)) (ev_var rfl hv) fun G3 v1 x1 e3 r1 p1 => ?_ : EvP rB _ _ _ (fun y => (y = true ↔ ∃ x, F x x))).imp fun y hy => ?_) fun _ => ?_
    · subst p1
      exact mkSp_use (args := aB1) (items, F, x1) ⟨B, v1, rfl, r1⟩
    · cases y <;> cases b <;> simp_all
    · obtain ⟨d, kvs, rfl, hd, hp⟩ := hw
      refine ev_all (ev_lock (lk_L lk_B) hd rfl fun od => ?_)
      have hI : EvI rS (iKeys (tVar 1)) (L2.start N_has_all [v, .ref d]) (upd G d (.frz od (.dK kvs))) (fun ys => ys = items) := by
        have h := ei_keys (RK := rS) (kf := kS) (G := upd G d (.frz od (.dK kvs))) (σ := L2.start N_has_all [v, .ref d]) (td := tVar 1) (xs := ds') (fun _ _ => rfl) (ev_var (R := rV) rfl rfl) upd_same (frz_keys (d := d) hp)
        rw [B'.b.keys] at h; exact h
      have hv' : (rDr kS (rL rS)).is (upd G d (.frz od (.dK kvs))) v ds := lk_Dr (lk_L lk_S) (Le.lock hd rfl) (rD_r hv)
      have hw' : (rDr kS (rL rS)).is (upd G d (.frz od (.dK kvs))) (.ref d) ds' := frz_dr (lk_L lk_S) hd hp
      refine ev_lc2 (R := rS) (S := rS) (zs := fun x => (look ds' x).getD []) (f := fun x y => decide (y ∈ (look ds x).getD [])) hI (by omega) (fun x hx => ?_) fun x hx G2 u e2 r => ?_
      · obtain ⟨zs, h1, h2, _⟩ := B'.b.row x hx
        rw [h1]
        exact Nat.le_trans h2 (by decide)
      · cases r
        obtain ⟨zs, h1, h2, h3⟩ := B'.b.row x hx
        obtain ⟨rs, g1, g2, g3⟩ := B.b.row x hx
        refine ⟨_, tg_name, rfl, ?_, fun z hz G3 u3 e3 r3 => ?_⟩
        · rw [h1]
          exact ei_list (ev_dget (RK := rS) inj_S key_S (ev_var rfl ((rDr kS (rL rS)).ex e2 hw')) (ev_var rfl rfl) h1)
        · cases r3
          refine ⟨_, tg_name, rfl, ?_⟩
          rw [g1]
          exact ev_inS (ev_var rfl rfl) (ev_dget (RK := rS) inj_S key_S (ev_var rfl ((rDr kS (rL rS)).ex (e2.trans e3) hv')) (ev_var rfl rfl) g1)
  have hall : ((items.flatMap fun x => ((look ds' x).getD []).map fun y => decide (y ∈ (look ds x).getD [])).all id) = true ↔ ∀ x y, F' x y → F x y := by
    rw [List.all_eq_true]
    constructor
    · intro h x y hxy
      have hx := (B'.cl x y hxy).1
      obtain ⟨zs, h1, h2, h3⟩ := B'.b.row x hx
      obtain ⟨rs, g1, g2, g3⟩ := B.b.row x hx
      have h := h (decide (y ∈ (look ds x).getD [])) (List.mem_flatMap.mpr ⟨x, hx, List.mem_map.mpr ⟨y, by rw [h1]; exact (h3 y).mpr hxy, rfl⟩⟩)
      have h : decide (y ∈ (look ds x).getD []) = true := h
      rw [g1] at h
      exact (g3 y).mp (of_decide_eq_true h)
    · intro h b hb
      obtain ⟨x, hx, hb⟩ := List.mem_flatMap.mp hb
      obtain ⟨y, hy, rfl⟩ := List.mem_map.mp hb
      obtain ⟨zs, h1, h2, h3⟩ := B'.b.row x hx
      obtain ⟨rs, g1, g2, g3⟩ := B.b.row x hx
      rw [h1] at hy
      show decide (y ∈ (look ds x).getD []) = true
      rw [g1]
      exact decide_eq_true ((g3 y).mpr (h x y ((h3 y).mp hy)))
  by_cases hr2 : ∃ x, F x x
  · exact s_ret (key true ⟨fun _ => hr2, fun _ => rfl⟩) e fun v5 G5 H5 n5 r5 => q v5 G5 H5 _ n5 r5 ⟨fun _ => .inl hr2, fun _ => rfl⟩
  · exact s_ret (key false ⟨fun h => (by cases h), fun h => absurd h hr2⟩) e fun v5 G5 H5 n5 r5 => q v5 G5 H5 _ n5 r5 (by rw [Bool.false_or, hall]; exact ⟨.inr, fun h => h.elim (fun h => absurd h hr2) id⟩))
abbrev N_check_alike : List Str := ["one", "other"]
theorem sc_check_alike : FnScope N_check_alike ["one", "other"] (defScope s_check_alike) := ⟨rfl, rfl, rfl, by decide +kernel, rfl, by decide +kernel, by decide +kernel⟩
theorem mk_check_alike (T : Tx K mg) {sp : Sp} (len : ∀ vs H Q E, sp vs H Q E → vs.length = 2)
    (hb : ∀ (cdv : Value) (A : Around) (outer : List Env) (s : Shared) (H : Hp) (vs : List V) (Q : VK) (E : XK), Room 2 (A.deeper (envOfC "check_alike" (defScope s_check_alike) s.heap.objs.size (He.ga K "check_alike") cdv)) → sp vs H Q E →
      ∃ t, PSs (cxOf CX0 P w K mg base N_check_alike "check_alike" (defScope s_check_alike) (He.ga K "check_alike") cdv A outer s H E).nox (defBody s_check_alike) t ∧ t { nx := fun _ H' => Q .non H', rt := Q } (start N_check_alike vs) H) : Cal P w K mg base 3 "check_alike" sp := by
  obtain ⟨fd, F⟩ := T.fn 19 rfl
  have b : Binds K fd ["one", "other"] [] := F.binds fun _ _ _ _ _ _ us hl => match us, hl with | [_, _], _ => rfl
  exact ⟨_, fd, _, F.ok sc_check_alike len hb, T.glo 18 rfl, F.kp, b⟩
def sp_check_alike (K : PySem.W.Frag) : Sp := mkSp (aL2 K) (rU) (fun _ _ => True)
theorem ln_check_alike {K : PySem.W.Frag} : ∀ vs H Q E, sp_check_alike K vs H Q E → vs.length = 2 := by
  rintro vs H Q E ⟨G, i, e, h, _⟩
  have h : (aL2 K) i G vs := h
  obtain ⟨_, v, w, rfl, _⟩ := h; rfl
theorem ok_check_alike (T : Tx K mg) : Cal P w K mg base 3 "check_alike" (sp_check_alike K) := mk_check_alike T ln_check_alike (fun cdv A outer s H vs Q E hr h => by
  have hu := hu_of hr
  have nd := sc_check_alike.nd
  obtain ⟨G, i, e, ha, q⟩ := h
  refine ⟨_, pss_one (ps_if (pt_cmpR (k_neD (K := K) rfl hr.units) (pe_callB (k_sortedS (K := K) rfl) (by rfl) (T.free 78 rfl) (by decide +kernel) (pa_cons (pe_p (ok_Log_item_names T) hr (pv 0)) pa_nil)) (pe_callB (k_sortedS (K := K) rfl) (by rfl) (T.free 78 rfl) (by decide +kernel) (pa_cons (pe_p (ok_Log_item_names T) hr (pv 1)) pa_nil)) (nomark _)) (pss_one (ps_never)) (pss_nil)), ?_⟩
  obtain ⟨L, L'⟩ := i
  dsimp only [aL2] at ha
  obtain ⟨⟨W, W', hit⟩, v, w1, rfl, hv, hw⟩ := ha
  dsimp only at q hv hw
  have h6 := W.ilen
  have h6' := W'.ilen
  refine s_if (b := false) (et_test (ev_op (R := rL rS) (S := rL rS) (PA := fun ys => ys.Perm L.items ∧ sortedS ys = true) (PB := fun ys => ys.Perm L'.items ∧ sortedS ys = true) (ev_sortedS (ev_lp W (ev_var rfl hv) "item_names" (by intros; rfl)) (by omega)) (ev_sortedS (ev_lp W' (ev_var rfl hw) "item_names" (by intros; rfl)) (by omega)) fun G2 v1 x w2 y e2 r1 p1 r2 p2 H3 e3 Q3 q3 => ?_)) e (fun hb => by cases hb) fun _ G2 H2 n2 => q .non G2 H2 () n2 rfl trivial
  obtain ⟨a1, vs1, rfl, ha1, hp1⟩ := r1
  obtain ⟨a2, vs2, rfl, ha2, hp2⟩ := r2
  have hxy : x = y := sorted_uniq (p1.1.trans (hit ▸ p2.1.symm)) p1.2 p2.2
  subst hxy
  have s1 := strs_shaped (xs := x) fun z hz => W.iname z (p1.1.mem_iff.mp hz)
  refine ⟨_, _, .lst (SqL.of (by rw [← pd_strs hp1]; exact e3 a1 _ ha1)) (strs_dp x), .lst (SqL.of (by rw [← pd_strs hp2]; exact e3 a2 _ ha2)) (strs_dp x), s1, s1, q3 _ G2 H3 false (Nxt.refl e3) ?_ rfl⟩
  show V.bl (!PyData.eqvAll (x.map PyData.str) (x.map PyData.str)) = V.bl false
  rw [strs_eqv]; rfl)
abbrev N_says_all : List Str := ["one", "other"]
theorem sc_says_all : FnScope N_says_all ["one", "other"] (defScope s_says_all) := ⟨rfl, rfl, rfl, by decide +kernel, rfl, by decide +kernel, by decide +kernel⟩
theorem mk_says_all (T : Tx K mg) {sp : Sp} (len : ∀ vs H Q E, sp vs H Q E → vs.length = 2)
    (hb : ∀ (cdv : Value) (A : Around) (outer : List Env) (s : Shared) (H : Hp) (vs : List V) (Q : VK) (E : XK), Room 9 (A.deeper (envOfC "says_all" (defScope s_says_all) s.heap.objs.size (He.ga K "says_all") cdv)) → sp vs H Q E →
      ∃ t, PSs (cxOf CX0 P w K mg base N_says_all "says_all" (defScope s_says_all) (He.ga K "says_all") cdv A outer s H E).nox (defBody s_says_all) t ∧ t { nx := fun _ H' => Q .non H', rt := Q } (start N_says_all vs) H) : Cal P w K mg base 10 "says_all" sp := by
  obtain ⟨fd, F⟩ := T.fn 22 rfl
  have b : Binds K fd ["one", "other"] [] := F.binds fun _ _ _ _ _ _ us hl => match us, hl with | [_, _], _ => rfl
  exact ⟨_, fd, _, F.ok sc_says_all len hb, T.glo 21 rfl, F.kp, b⟩
def sp_says_all (K : PySem.W.Frag) : Sp := mkSp (aL2 K) (rB) (fun i y => (y = true ↔ HasAll (RB.Bt i.1 RB.All) (RB.Bt i.2 RB.All)))
theorem ln_says_all {K : PySem.W.Frag} : ∀ vs H Q E, sp_says_all K vs H Q E → vs.length = 2 := by
  rintro vs H Q E ⟨G, i, e, h, _⟩
  have h : (aL2 K) i G vs := h
  obtain ⟨_, v, w, rfl, _⟩ := h; rfl
theorem ok_says_all (T : Tx K mg) : Cal P w K mg base 10 "says_all" (sp_says_all K) := mk_says_all T ln_says_all (fun cdv A outer s H vs Q E hr h => by
  have hu := hu_of hr
  have nd := sc_says_all.nd
  obtain ⟨G, i, e, ha, q⟩ := h
  refine ⟨_, pss_cons (ps_expr (pe_c (ok_check_alike T) hr (pa_cons (pv 0) (pa_cons (pv 1) pa_nil))))
      (pss_one (ps_ret (pe_c (ok_has_all T) hr (pa_cons (pe_c (ok_better_by T) hr (pa_cons (pv 0) (pa_cons (pe_m00 (ok_Log_answers T) hr (pv 0)) pa_nil))) (pa_cons (pe_c (ok_better_by T) hr (pa_cons (pv 1) (pa_cons (pe_m00 (ok_Log_answers T) hr (pv 1)) pa_nil))) pa_nil))))), ?_⟩
  obtain ⟨L, L'⟩ := i
  dsimp only [aL2] at ha
  obtain ⟨⟨W, W', hit⟩, v, w1, rfl, hv, hw⟩ := ha
  dsimp only at q hv hw
  refine q_dropP (R := rU) (PA := fun _ => True) (ev_call2 (R := rLog K) (S := rLog K) (ev_var rfl hv) (ev_var rfl hw) fun G3 v1 x1 w1 y1 e3 r1 p1 r2 p2 => ?_) e fun _ G1 H1 _ n1 _ _ => ?_
  · subst p1 p2
    exact mkSp_use (args := aL2 K) (x1, y1) ⟨⟨W, W', hit⟩, v1, w1, rfl, r1, r2⟩
  refine s_retP (R := rB) (PA := fun y => (y = true ↔ HasAll (RB.Bt L RB.All) (RB.Bt L' RB.All))) (ev_call2 (ev_better W (ev_var rfl ((rLog K).ex n1.g hv))) (ev_better W' (ev_var rfl ((rLog K).ex n1.g hw))) fun G3 v1 x1 w1 y1 e3 r1 p1 r2 p2 => ?_) n1.s fun v4 G4 H4 y n4 r4 h4 => q v4 G4 H4 y (n1.trans n4) r4 h4
  have b1 := W.bok p1
  have b2 := W'.bok p2
  rw [← hit] at b2
  exact mkSp_use (args := aB2) (L.items, (RB.Bt L RB.All, x1), (RB.Bt L' RB.All, y1)) ⟨⟨b1, b2⟩, v1, w1, rfl, r1, r2⟩)
abbrev N_say_same : List Str := ["one", "other"]
theorem sc_say_same : FnScope N_say_same ["one", "other"] (defScope s_say_same) := ⟨rfl, rfl, rfl, by decide +kernel, rfl, by decide +kernel, by decide +kernel⟩
theorem mk_say_same (T : Tx K mg) {sp : Sp} (len : ∀ vs H Q E, sp vs H Q E → vs.length = 2)
    (hb : ∀ (cdv : Value) (A : Around) (outer : List Env) (s : Shared) (H : Hp) (vs : List V) (Q : VK) (E : XK), Room 10 (A.deeper (envOfC "say_same" (defScope s_say_same) s.heap.objs.size (He.ga K "say_same") cdv)) → sp vs H Q E →
      ∃ t, PSs (cxOf CX0 P w K mg base N_say_same "say_same" (defScope s_say_same) (He.ga K "say_same") cdv A outer s H E).nox (defBody s_say_same) t ∧ t { nx := fun _ H' => Q .non H', rt := Q } (start N_say_same vs) H) : Cal P w K mg base 11 "say_same" sp := by
  obtain ⟨fd, F⟩ := T.fn 23 rfl
  have b : Binds K fd ["one", "other"] [] := F.binds fun _ _ _ _ _ _ us hl => match us, hl with | [_, _], _ => rfl
  exact ⟨_, fd, _, F.ok sc_say_same len hb, T.glo 22 rfl, F.kp, b⟩
def sp_say_same (K : PySem.W.Frag) : Sp := mkSp (aL2 K) (rB) (fun i y => (y = true ↔ HasAll (RB.Bt i.1 RB.All) (RB.Bt i.2 RB.All) ∧ HasAll (RB.Bt i.2 RB.All) (RB.Bt i.1 RB.All)))
theorem ln_say_same {K : PySem.W.Frag} : ∀ vs H Q E, sp_say_same K vs H Q E → vs.length = 2 := by
  rintro vs H Q E ⟨G, i, e, h, _⟩
  have h : (aL2 K) i G vs := h
  obtain ⟨_, v, w, rfl, _⟩ := h; rfl
theorem ok_say_same (T : Tx K mg) : Cal P w K mg base 11 "say_same" (sp_say_same K) := mk_say_same T ln_say_same (fun cdv A outer s H vs Q E hr h => by
  have hu := hu_of hr
  have nd := sc_say_same.nd
  obtain ⟨G, i, e, ha, q⟩ := h
  refine ⟨_, pss_one (ps_ret (pe_and (pe_c (ok_says_all T) hr (pa_cons (pv 0) (pa_cons (pv 1) pa_nil))) (pe_one (pe_c (ok_says_all T) hr (pa_cons (pv 1) (pa_cons (pv 0) pa_nil)))))), ?_⟩
  obtain ⟨L, L'⟩ := i
  dsimp only [aL2] at ha
  obtain ⟨⟨W, W', hit⟩, v, w1, rfl, hv, hw⟩ := ha
  dsimp only at q hv hw
  have key : ∀ (i j : Nat) (A B : Log) (va vb : V) (hA : WfL A) (hB : WfL B) (hAB : A.items = B.items), (L2.start N_say_same [v, w1])[i]? = some (some va) → (L2.start N_say_same [v, w1])[j]? = some (some vb) → (rLog K).is G va A → (rLog K).is G vb B → ∀ b : Bool, (b = true ↔ HasAll (RB.Bt A RB.All) (RB.Bt B RB.All)) → EvD rB (tCall (sp_says_all K) [] E0 (tCons (tVar i) (tCons (tVar j) tNil))) (L2.start N_say_same [v, w1]) G b := fun i j A B va vb hA hB hAB h1 h2 h3 h4 b hb => by
    refine (ev_call2 (R := rLog K) (S := rLog K) (ev_var h1 h3) (ev_var h2 h4) fun G3 v1 x1 w1 y1 e3 r1 p1 r2 p2 => ?_ : EvP rB _ _ _ (fun y => (y = true ↔ HasAll (RB.Bt A RB.All) (RB.Bt B RB.All)))).imp fun y hy => ?_
    · subst p1 p2
      exact mkSp_use (args := aL2 K) (x1, y1) ⟨⟨hA, hB, hAB⟩, v1, w1, rfl, r1, r2⟩
    · cases y <;> cases b <;> simp_all
  open Classical in
  exact s_ret (ev_andV (key 0 1 L L' v w1 W W' hit rfl rfl hv hw (decide _) decide_eq_true_iff) (fun _ => key 1 0 L' L w1 v W' W hit.symm rfl rfl hw hv (decide _) decide_eq_true_iff)) e fun v5 G5 H5 n5 r5 => q v5 G5 H5 _ n5 r5 (by rw [Bool.and_eq_true, decide_eq_true_eq, decide_eq_true_eq]))
end
end FW
/-! is_same_by, needless_answers. -/
namespace FW
open PySem PySem.Spec PyProof.Rows L2 Hd
/-- a dict comprehension with a test, told exactly -/
theorem ev_dcF {κ α β : Type} [DecidableEq κ] {R : Rp α} {S : Rp β} {RK : Rp κ} {σ : L2.St} {G : Hp} {tk tv : TE} {tt : TT} {g : TG} {kf : κ → Key} {wi : TI} {vs : List Nat} {xs : List α} {p : α → Bool} {ky : α → κ} {f : α → β} (inj : ∀ a b, kf a = kf b → a = b) (hkr : KeyR RK kf) (hi : EvI R wi σ G (fun ys => ys = xs)) (hl : xs.length ≤ 100000) (nd : (xs.map ky).Nodup)
    (hb : ∀ x, x ∈ xs → ∀ G2 v, Ex G G2 → R.is G2 v x → ∃ σ2, Tg g v (wipe σ vs) G2 σ2 ∧ wipe σ2 vs = wipe σ vs ∧ EvT tt σ2 G2 (p x) ∧ (p x = true → EvD RK tk σ2 G2 (ky x) ∧ EvD S tv σ2 G2 (f x))) :
    EvD (rD kf S) (tDc wi g tt tk tv vs) σ G ((xs.filter p).map fun x => (ky x, f x)) := (ev_dc (p := p) (ky := ky) (F := fun x y => y = f x) inj hkr hi fun ys e => by
  subst e
  exact ⟨hl, nd, hb⟩).imp fun ys h => by
  obtain ⟨_, rfl, h⟩ := h
  exact pd_pairs h
/-- a, b = e, f -/
theorem q_par {α β : Type} {R : Rp α} {S : Rp β} {σ : L2.St} {G H : Hp} {ta tb : TE} {D : Ends} {u : TS} {i j : Nat} {PA : α → Prop} {PB : β → Prop} (h1 : EvP R ta σ G PA) (h2 : EvP S tb σ G PB) (e : Ex G H)
    (k : ∀ v w G2 H2 x y, Nxt G H G2 H2 → R.is G2 v x → PA x → S.is G2 w y → PB y → u D ((σ.set i (some v)).set j (some w)) H2) : tSeq (tPar i j (tCons ta (tCons tb tNil))) u D σ H :=
  h1 H e _ fun v G2 H2 x n r p => h2.mono n.g H2 n.s _ fun w G3 H3 y n2 r2 p2 => ⟨v, w, rfl, k v w G3 H3 x y (n.trans n2) (R.ex n2.g r) p r2 p2⟩
/-- the links of es by the places of kl -/
def keR (es : Ends3) (kl : List Nat) (x y : Str) : Prop := ∃ a b, ((a, b), x, y) ∈ es ∧ a ∈ kl ∧ b ∈ kl
abbrev aSam : Ends3 × List Str × ((Str → Str → Prop) × List (Str × List Str)) × List Nat → Hp → List V → Prop := fun i G vs => (i.1.length ≤ 50000 ∧ i.2.1.Nodup ∧ BOk i.2.1 i.2.2.1.1 i.2.2.1.2 ∧ ∀ z ∈ i.1, z.2.1 ∈ i.2.1 ∧ z.2.2 ∈ i.2.1) ∧
  ∃ v w u t, vs = [v, w, u, t] ∧ (rL rEnd).is G v i.1 ∧ (rL rS).is G w i.2.1 ∧ (rD kS (rL rS)).is G u i.2.2.1.2 ∧ (rD kN rB).is G t (i.2.2.2.map fun p => (p, true))
theorem keys_true {kl : List Nat} : (kl.map fun p => (p, true)).map (·.1) = kl := by rw [List.map_map]; exact List.map_id' _
/-- kl keeps what the log says -/
def SameBy (L : Log) (P : Nat → Prop) : Prop := HasAll (RB.Bt L P) (RB.Bt L RB.All)
theorem SameBy.mono {L : Log} {P P' : Nat → Prop} (h : SameBy L P) (k : ∀ p, P p → P' p) : SameBy L P' := by
  rcases h with ⟨x, h⟩ | h
  · exact .inl ⟨x, RB.Bt.mono k h⟩
  · exact .inr fun x y t => RB.Bt.mono k (h x y t)
theorem IsEnds.keR {L : Log} {es : Ends3} (h : IsEnds L es) {kl : List Nat} (x y : Str) : keR es kl x y ↔ RB.LkR L (fun p => p ∈ kl) x y := by
  constructor
  · rintro ⟨a, b, h1, h2, h3⟩
    exact ⟨a, b, h2, h3, (h.mem _ _ _ _).mp h1⟩
  · rintro ⟨a, b, h2, h3, h1⟩
    exact ⟨a, b, (h.mem _ _ _ _).mpr h1, h2, h3⟩
theorem IsEnds.inItems {L : Log} (W : WfL L) {es : Ends3} (h : IsEnds L es) : ∀ z ∈ es, z.2.1 ∈ L.items ∧ z.2.2 ∈ L.items := fun z hz => by
  obtain ⟨⟨a, b⟩, x, y⟩ := z
  exact W.lkr (P := RB.All) ⟨a, b, trivial, trivial, (h.mem _ _ _ _).mp hz⟩
theorem sameBy_iff {L : Log} {es : Ends3} (h : IsEnds L es) {kl : List Nat} : HasAll (Relation.TransGen (keR es kl)) (RB.Bt L RB.All) ∧ HasAll (RB.Bt L RB.All) (Relation.TransGen (keR es kl)) ↔ SameBy L (fun p => p ∈ kl) := by
  have e : ∀ x y, Relation.TransGen (keR es kl) x y ↔ RB.Bt L (fun p => p ∈ kl) x y := fun x y => RB.tg_iff (fun x y => h.keR x y) x y
  constructor
  · rintro ⟨h1, _⟩
    rcases h1 with ⟨x, h1⟩ | h1
    · exact .inl ⟨x, (e x x).mp h1⟩
    · exact .inr fun x y t => (e x y).mp (h1 x y t)
  · intro h1
    refine ⟨?_, .inr fun x y t => RB.Bt.mono (fun _ _ => trivial) ((e x y).mp t)⟩
    rcases h1 with ⟨x, h1⟩ | h1
    · exact .inl ⟨x, (e x x).mpr h1⟩
    · exact .inr fun x y t => (e x y).mpr (h1 x y t)
section
variable {P : Program} {w : World} {K : PySem.W.Frag} {mg : Str → Option Value} {base : Heap}

abbrev N_is_same_by : List Str := ["pairs", "items", "better", "kept", "left", "ways", "begin", "end", "first", "second"]
theorem sc_is_same_by : FnScope N_is_same_by ["pairs", "items", "better", "kept"] (defScope s_is_same_by) := ⟨rfl, rfl, rfl, by decide +kernel, rfl, by decide +kernel, by decide +kernel⟩
theorem mk_is_same_by (T : Tx K mg) {sp : Sp} (len : ∀ vs H Q E, sp vs H Q E → vs.length = 4)
    (hb : ∀ (cdv : Value) (A : Around) (outer : List Env) (s : Shared) (H : Hp) (vs : List V) (Q : VK) (E : XK), Room 2 (A.deeper (envOfC "is_same_by" (defScope s_is_same_by) s.heap.objs.size (He.ga K "is_same_by") cdv)) → sp vs H Q E →
      ∃ t, PSs (cxOf CX0 P w K mg base N_is_same_by "is_same_by" (defScope s_is_same_by) (He.ga K "is_same_by") cdv A outer s H E).nox (defBody s_is_same_by) t ∧ t { nx := fun _ H' => Q .non H', rt := Q } (start N_is_same_by vs) H) : Cal P w K mg base 3 "is_same_by" sp := by
  obtain ⟨fd, F⟩ := T.fn 25 rfl
  have b : Binds K fd ["pairs", "items", "better", "kept"] [] := F.binds fun _ _ _ _ _ _ us hl => match us, hl with | [_, _, _, _], _ => rfl
  exact ⟨_, fd, _, F.ok sc_is_same_by len hb, T.glo 24 rfl, F.kp, b⟩
def sp_is_same_by (K : PySem.W.Frag) : Sp := mkSp (aSam) (rB) (fun i y => (y = true ↔ HasAll (Relation.TransGen (keR i.1 i.2.2.2)) i.2.2.1.1 ∧ HasAll i.2.2.1.1 (Relation.TransGen (keR i.1 i.2.2.2))))
theorem ln_is_same_by {K : PySem.W.Frag} : ∀ vs H Q E, sp_is_same_by K vs H Q E → vs.length = 4 := by
  rintro vs H Q E ⟨G, i, e, h, _⟩
  have h : (aSam) i G vs := h
  obtain ⟨_, v, w, u, t, rfl, _⟩ := h; rfl
theorem ok_is_same_by (T : Tx K mg) : Cal P w K mg base 3 "is_same_by" (sp_is_same_by K) := mk_is_same_by T ln_is_same_by (fun cdv A outer s H vs Q E hr h => by
  have hu := hu_of hr
  have nd := sc_is_same_by.nd
  obtain ⟨G, i, e, ha, q⟩ := h
  refine ⟨_, pss_cons (ps_set (i := 4) nd rfl (Or.inl rfl) (pe_dnewT))
      (pss_cons (ps_for PassesOwn.never rfl (k_iList (K := K) rfl (pv 0)) (pg_tup rfl (pgs_cons (pg_tup rfl (pgs_cons (pg_name (i := 8) nd rfl (Or.inl rfl)) (pgs_cons (pg_name (i := 9) nd rfl (Or.inl rfl)) pgs_nil))) (pgs_cons (pg_name (i := 6) nd rfl (Or.inl rfl)) (pgs_cons (pg_name (i := 7) nd rfl (Or.inl rfl)) pgs_nil)))) (pss_one (ps_if (PW.pt (pw_and (pt_cmp (pc_din hu (pv 8) (pv 3))) (pw_and1 (pt_cmp (pc_din hu (pv 9) (pv 3)))))) (pss_one (ps_dput hu (pv 4) (pe_tup (pa_cons (pv 6) (pa_cons (pv 7) pa_nil))) (pe_bl) rfl)) (pss_nil))))
      (pss_cons (ps_set (i := 5) nd rfl (Or.inl rfl) (pe_c (ok_reached T) hr (pa_cons (pv 1) (pa_cons (pv 4) pa_nil))))
      (pss_one (ps_ret (pe_and (pe_c (ok_has_all T) hr (pa_cons (pv 5) (pa_cons (pv 2) pa_nil))) (pe_one (pe_c (ok_has_all T) hr (pa_cons (pv 2) (pa_cons (pv 5) pa_nil))))))))), ?_⟩
  obtain ⟨es, items, ⟨F, ds⟩, kl⟩ := i
  dsimp only [aSam] at ha
  obtain ⟨⟨hel, hnd, B, hin⟩, v, w1, u1, t1, rfl, hv, hw, hu1, ht1⟩ := ha
  dsimp only at q hv hw hu1 ht1
  have h6 := B.six
  refine q_newT e fun d H2 n2 own2 => ?_
  refine q_for (ei_list (R := rEnd) (P := fun y => y = es) (ev_var rfl hv)) n2.s (fun es' G3 H3 hes n3 => ?_)
  subst hes
  refine ⟨fun k σ' G' H' => Nxt G H G' H' ∧ (∃ a6 a7 a8 a9, σ' = [some v, some w1, some u1, some t1, some (.ref d), none, a6, a7, a8, a9]) ∧ ∃ us ps, Own H G' H' d (.dT us) ∧ Pd (Ent kSS rB G') us ps ∧ ps.length ≤ k ∧ ∀ x y, (x, y) ∈ ps.map (·.1) ↔ ∃ a b, ((a, b), x, y) ∈ es'.take k ∧ a ∈ kl ∧ b ∈ kl, ⟨n2.trans n3, ⟨_, _, _, _, rfl⟩, [], [], own2.nxt n3, .nil, Nat.le_refl _, by simp⟩, ?_, ?_⟩
  · rintro k z σ' G' H' hz e1 e2 ⟨nn, ⟨a4, a5, a7, a8, rfl⟩, us, ps, own, pu, hlen, hmem⟩ w2 G4 H4 n4 ⟨t, v1, v2, v3, rfl, ht, h1, h2, h3⟩
    obtain ⟨t2, u2, u3, rfl, ht2, h4, h5⟩ := h1
    cases h2; cases h3; cases h4; cases h5
    have hk : k < es'.length := (List.getElem?_eq_some_iff.mp hz).1
    have take1 : es'.take (k + 1) = es'.take k ++ [z] := by rw [List.take_add_one, hz]; rfl
    refine tg_tup3 ht (tg_tup2 ht2 tg_name tg_name) tg_name tg_name H4 n4.s _ ?_
    have hd := rD_r ((rD kN rB).ex (nn.g.trans n4.g) ht1)
    refine s_if (b := decide (z.1.1 ∈ kl) && decide (z.1.2 ∈ kl)) (et_and (et_B (ev_val (ev_din (RK := rN) inj_N key_N (ev_var rfl rfl) (ev_var rfl hd)) (by rw [keys_true]))) (fun _ => et_B (ev_val (ev_din (RK := rN) inj_N key_N (ev_var rfl rfl) (ev_var rfl hd)) (by rw [keys_true])))) n4.s (fun hb G5 H5 n5 => ?_) (fun hb G5 H5 n5 => ?_)
    · rw [Bool.and_eq_true, decide_eq_true_eq, decide_eq_true_eq] at hb
      have pul := pd_len pu
      refine s_dputT (R := rB) (RK := rT2 rS rS) (kf := kSS) (x := (z.2.1, z.2.2)) (PA := fun b => b = true) key_SS ((own.nxt n4).nxt n5) rfl ev_bl (ev_tup2D (ev_var rfl rfl) (ev_var rfl rfl)) n5.s (by omega) fun v6 G6 H6 y n6 r6 p6 own6 => ?_
      subst p6
      refine ⟨G6, (e1.trans n4.g).trans (n5.g.trans n6.g), n6.s.mut own6.g, (((nn.trans n4).trans n5).trans n6).mut own6.s own6.g, ⟨_, _, _, _, rfl⟩, _, _, own6, pd_put inj_SS (ent_ex (n4.g.trans (n5.g.trans n6.g)) pu) r6, ?_, fun x y => ?_⟩
      · rw [put_len]; split <;> omega
      · rw [mem_put_keys, hmem, take1]
        constructor
        · rintro (⟨a, b, h1, h2⟩ | h)
          · exact ⟨a, b, List.mem_append_left _ h1, h2⟩
          · cases h
            exact ⟨z.1.1, z.1.2, List.mem_append_right _ (List.mem_singleton.mpr rfl), hb⟩
        · rintro ⟨a, b, h1, h2⟩
          rcases List.mem_append.mp h1 with h1 | h1
          · exact .inl ⟨a, b, h1, h2⟩
          · have h3 := List.mem_singleton.mp h1
            right
            rw [← h3]
    · refine ⟨G5, (e1.trans n4.g).trans n5.g, n5.s, (nn.trans n4).trans n5, ⟨_, _, _, _, rfl⟩, us, ps, (own.nxt n4).nxt n5, ent_ex (n4.g.trans n5.g) pu, by omega, fun x y => ?_⟩
      rw [hmem, take1]
      constructor
      · rintro ⟨a, b, h1, h2⟩
        exact ⟨a, b, List.mem_append_left _ h1, h2⟩
      · rintro ⟨a, b, h1, h2⟩
        rcases List.mem_append.mp h1 with h1 | h1
        · exact ⟨a, b, h1, h2⟩
        · have h3 := List.mem_singleton.mp h1
          rw [← h3] at hb
          rw [decide_eq_true h2.1, decide_eq_true h2.2] at hb
          cases hb
  · rintro σ' G' H' e1 e2 ⟨nn, ⟨a4, a5, a7, a8, rfl⟩, us, ps, own, pu, hlen, hmem⟩
    rw [List.take_length] at hmem
    have hlk : ∀ x y, prR ps x y ↔ keR es' kl x y := fun x y => hmem x y
    have hin2 : ∀ p ∈ ps.map (·.1), p.1 ∈ items ∧ p.2 ∈ items := fun p hp => by
      obtain ⟨a, b, h1, _⟩ := (hlk p.1 p.2).mp hp
      exact hin _ h1
    have gt : Ex G (upd G' d (.dT us)) := nn.g.trans (Ex.new own.g)
    refine q_asgP (R := rD kS (rL rS)) (PA := fun y => IsB items (Relation.TransGen (keR es' kl)) y) (ev_call2 (R := rL rS) (S := rDT kSS rB) (ev_var rfl ((rL rS).ex gt hw)) (ev_var rfl (own_dictT own pu)) fun G3 v1 x1 w1 y1 e3 r1 p1 r2 p2 => ?_) (own.told e2) fun v5 G5 H5 y n5 r5 h5 => ?_
    · subst p1 p2
      exact (mkSp_use (args := aRch) (x1, y1) ⟨⟨hnd, h6, hin2⟩, v1, w1, rfl, r1, r2⟩).imp fun y hy => IsB.congr hy fun x _ y => RB.tg_iff hlk x y
    have n6 := (nn.tell own.s own.h own.g).trans n5
    have B2 : BOk items (Relation.TransGen (keR es' kl)) y := ⟨h5, h6, fun x y t => tg_in (P := fun x => x ∈ items) (fun x y ⟨a, b, h1, _⟩ => hin _ h1) t⟩
    have key : ∀ (i j : Nat) (σ : L2.St) (va vb : V) (FA FB : Str → Str → Prop) (da db : List (Str × List Str)) (hA : BOk items FA da) (hB : BOk items FB db), σ[i]? = some (some va) → σ[j]? = some (some vb) → (rD kS (rL rS)).is G5 va da → (rD kS (rL rS)).is G5 vb db → ∀ b : Bool, (b = true ↔ HasAll FA FB) → EvD rB (tCall (sp_has_all K) [] E0 (tCons (tVar i) (tCons (tVar j) tNil))) σ G5 b := fun i j σ va vb FA FB da db hA hB h1 h2 h3 h4 b hb => by
      refine (ev_call2 (R := rD kS (rL rS)) (S := rD kS (rL rS)) (ev_var h1 h3) (ev_var h2 h4) fun G3 v1 x1 w1 y1 e3 r1 p1 r2 p2 => ?_ : EvP rB _ _ _ (fun y => (y = true ↔ HasAll FA FB))).imp fun y hy => ?_
      · subst p1 p2
        exact mkSp_use (args := aB2) (items, (FA, x1), (FB, y1)) ⟨⟨hA, hB⟩, v1, w1, rfl, r1, r2⟩
      · cases y <;> cases b <;> simp_all
    have hu5 := (rD kS (rL rS)).ex n6.g hu1
    open Classical in
    exact s_ret (ev_andV (key 5 2 _ v5 u1 _ F y ds B2 B rfl rfl r5 hu5 (decide _) decide_eq_true_iff) (fun _ => key 2 5 _ u1 v5 F _ ds y B B2 rfl rfl hu5 r5 (decide _) decide_eq_true_iff)) n5.s fun v7 G7 H7 n7 r7 => q v7 G7 H7 _ (n6.trans n7) r7 (by rw [Bool.and_eq_true, decide_eq_true_eq, decide_eq_true_eq]))
abbrev N_needless_answers : List Str := ["log", "places", "found", "place", "pairs", "better", "kept", "other"]
theorem sc_needless_answers : FnScope N_needless_answers ["log"] (defScope s_needless_answers) := ⟨rfl, rfl, rfl, by decide +kernel, rfl, by decide +kernel, by decide +kernel⟩
theorem mk_needless_answers (T : Tx K mg) {sp : Sp} (len : ∀ vs H Q E, sp vs H Q E → vs.length = 1)
    (hb : ∀ (cdv : Value) (A : Around) (outer : List Env) (s : Shared) (H : Hp) (vs : List V) (Q : VK) (E : XK), Room 9 (A.deeper (envOfC "needless_answers" (defScope s_needless_answers) s.heap.objs.size (He.ga K "needless_answers") cdv)) → sp vs H Q E →
      ∃ t, PSs (cxOf CX0 P w K mg base N_needless_answers "needless_answers" (defScope s_needless_answers) (He.ga K "needless_answers") cdv A outer s H E).nox (defBody s_needless_answers) t ∧ t { nx := fun _ H' => Q .non H', rt := Q } (start N_needless_answers vs) H) : Cal P w K mg base 10 "needless_answers" sp := by
  obtain ⟨fd, F⟩ := T.fn 26 rfl
  have b : Binds K fd ["log"] [] := F.binds fun _ _ _ _ _ _ us hl => match us, hl with | [_], _ => rfl
  exact ⟨_, fd, _, F.ok sc_needless_answers len hb, T.glo 25 rfl, F.kp, b⟩
def sp_needless_answers (K : PySem.W.Frag) : Sp := mkSp (aLog K) (rL rN) (fun L y => ∀ p, p ∈ y ↔ isAns L p = true ∧ SameBy L (fun q => q ∈ (ansL L).filter fun o => decide (o ≠ p)))
theorem ln_needless_answers {K : PySem.W.Frag} : ∀ vs H Q E, sp_needless_answers K vs H Q E → vs.length = 1 := by
  rintro vs H Q E ⟨G, i, e, h, _⟩
  have h : (aLog K) i G vs := h
  obtain ⟨_, v, rfl, _⟩ := h; rfl
theorem ok_needless_answers (T : Tx K mg) : Cal P w K mg base 10 "needless_answers" (sp_needless_answers K) := mk_needless_answers T ln_needless_answers (fun cdv A outer s H vs Q E hr h => by
  have hu := hu_of hr
  have nd := sc_needless_answers.nd
  obtain ⟨G, i, e, ha, q⟩ := h
  refine ⟨_, pss_cons (ps_set (i := 1) nd rfl (Or.inl rfl) (pe_m00 (ok_Log_answers T) hr (pv 0)))
      (pss_cons (ps_par (i := 4) (j := 5) rfl nd rfl rfl (by decide) rfl rfl (pa_cons (pe_c (ok_ends_of T) hr (pa_cons (pv 0) pa_nil)) (pa_cons (pe_c (ok_better_by T) hr (pa_cons (pv 0) (pa_cons (pv 1) pa_nil))) pa_nil)) (by rfl))
      (pss_cons (ps_set (i := 2) nd rfl (Or.inl rfl) (pe_lst (pa_nil)))
      (pss_cons (ps_for PassesOwn.never rfl (k_iList (K := K) rfl (pv 1)) (pg_name (i := 3) nd rfl (Or.inr rfl)) (pss_cons (ps_setDc (i := 6) (own := [("other", 7)]) (g := (gName 7)) rfl nd rfl rfl (sw_trueD rfl rfl rfl (by decide +kernel)) (k_iList (K := K) rfl (pv 1)) (blkOk_by (by kernel_rfl)) (fun _ _ _ _ _ => pg_name (i := 7) nd rfl (by first | exact Or.inl rfl | exact Or.inr rfl)) (fun _ _ _ _ _ => (pts_one (pt_cmpR op_ne (pv 7) (pv 3) (nomark _)))) (fun _ _ _ _ _ => pv 7) (fun _ _ _ _ _ => pe_bl))
      (pss_one (ps_if (pt_val (pe_c (ok_is_same_by T) hr (pa_cons (pv 4) (pa_cons (pe_p (ok_Log_item_names T) hr (pv 0)) (pa_cons (pv 5) (pa_cons (pv 6) pa_nil)))))) (pss_one (ps_expr (pe_bm PySem.F.plainAttrs_list PySem.F.slot_list_append PySem.F.type_list_append mt_append (pv 2) (pa_cons (pv 3) pa_nil)))) (pss_nil)))))
      (pss_one (ps_ret (pv 2)))))), ?_⟩
  obtain ⟨W, v, rfl, hv⟩ := ha
  have hl := W.elen
  have hal := ansL_len (L := i)
  refine q_asg (R := rL rN) (x := ansL i) (ev_lm0 W (ev_var rfl hv)) e fun vp G1 H1 n1 rp => ?_
  have hv1 := (rLog K).ex n1.g hv
  refine q_par (R := rL rEnd) (S := rD kS (rL rS)) (PA := fun es => IsEnds i es) (PB := fun ds => IsB i.items (RB.Bt i RB.All) ds) (ev_lc0 W (ev_var rfl hv1)) (ev_call2 (R := rLog K) (S := rL rN) (ev_var rfl hv1) (ev_var rfl rp) fun G3 v1 x1 w1 y1 e3 r1 p1 r2 p2 => ?_) n1.s fun ve vb G2 H2 es ds n2 re hes rb hB => ?_
  · subst p1 p2
    exact (mkSp_use (args := aBet K) (x1, ansL x1) ⟨W, ⟨ansL_nodup, by dsimp only; omega⟩, v1, w1, rfl, r1, r2⟩).imp fun y hy => IsB.congr hy fun _ _ _ => bt_ans
  refine q_newL n2.s fun l H3 n3 own3 => ?_
  have rp3 := (rL rN).ex n2.g rp
  refine q_for (ei_list (R := rN) (P := fun ys => ys = ansL i) (ev_var rfl rp3)) n3.s (fun ys G4 H4 hy n4 => ?_)
  subst hy
  have n12 := n1.trans n2
  refine ⟨fun k σ' G' H' => Nxt G H G' H' ∧ (∃ a b, σ' = [some v, some vp, some (.ref l), a, some ve, some vb, b, none]) ∧ ∃ us ys, Own H2 G' H' l (.lst us) ∧ Pd (rN.is G') us ys ∧ ys.length ≤ k ∧ ∀ p, p ∈ ys ↔ p ∈ (ansL i).take k ∧ SameBy i (fun q => q ∈ (ansL i).filter fun o => decide (o ≠ p)), ⟨(n12.trans n3).trans n4, ⟨_, _, rfl⟩, [], [], own3.nxt n4, .nil, Nat.le_refl _, by simp⟩, ?_, ?_⟩
  · rintro k x σ' G' H' hx e1 e2 ⟨nn, ⟨a, b, rfl⟩, us, ys, own, pu, hlen, hmem⟩ w1 G5 H5 n5 rfl
    have hk : k < (ansL i).length := (List.getElem?_eq_some_iff.mp hx).1
    have take1 : (ansL i).take (k + 1) = (ansL i).take k ++ [x] := by rw [List.take_add_one, hx]; rfl
    have g25 : Ex G2 G5 := (n3.g.trans n4.g).trans (e1.trans n5.g)
    refine q_asg (R := rD kN rB) (ev_dcF (R := rN) (RK := rN) (S := rB) (ky := fun p => p) (f := fun _ => true) (p := fun o => decide (o ≠ x)) inj_N key_N (ei_list (ev_var rfl ((rL rN).ex g25 rp3))) (by omega) (by rw [List.map_id']; exact ansL_nodup) fun y hy G6 u e6 r => ?_) n5.s fun vk G6 H6 n6 rk => ?_
    · cases r
      refine ⟨_, tg_name, rfl, et_test (ev_val (ev_neI (ev_N (ev_var rfl rfl)) (ev_N (ev_var rfl rfl))) ?_), fun _ => ⟨ev_var rfl rfl, ev_bl⟩⟩
      rw [← decide_not]
      exact decide_eq_decide.mpr (by omega)
    have g26 : Ex G2 G6 := g25.trans n6.g
    have key : ∀ b : Bool, (b = true ↔ SameBy i (fun q => q ∈ (ansL i).filter fun o => decide (o ≠ x))) → EvT (tB (tCall (sp_is_same_by K) [] E0 (tCons (tVar 4) (tCons (tProp (cLog K) (sp_Log_item_names K) [] E0 (tVar 0)) (tCons (tVar 5) (tCons (tVar 6) tNil)))))) [some v, some vp, some (.ref l), some (.int (x : Int)), some ve, some vb, some vk, none] G6 b := fun b hb => by
      refine et_B ((ev_call4 (R := rL rEnd) (S := rL rS) (T := rD kS (rL rS)) (U := rD kN rB) (ev_var rfl ((rL rEnd).ex g26 re)) (ev_lp W (ev_var rfl ((rLog K).ex ((nn.g.trans n5.g).trans n6.g) hv)) "item_names" (by intros; rfl)) (ev_var rfl ((rD kS (rL rS)).ex g26 rb)) (ev_var rfl rk) fun G7 a1 b1 a2 b2 a3 b3 a4 b4 e7 q1 p1 q2 p2 q3 p3 q4 p4 => ?_ : EvP rB _ _ _ (fun y => (y = true ↔ SameBy i (fun q => q ∈ (ansL i).filter fun o => decide (o ≠ x))))).imp fun y hy => ?_)
      · subst p1 p3 p4
        have p2 : b2 = i.items := p2
        subst p2
        exact (mkSp_use (args := aSam) (b1, i.items, (RB.Bt i RB.All, b3), (ansL i).filter fun o => decide (o ≠ x)) ⟨⟨hes.len, W.ind, W.bok hB, hes.inItems W⟩, a1, a2, a3, a4, rfl, q1, q2, q3, q4⟩).imp fun y hy => Iff.trans hy (sameBy_iff hes)
      · cases y <;> cases b <;> simp_all
    have pu6 := pd_mono (fun _ _ => rN.ex (n5.g.trans n6.g)) pu
    open Classical in
    refine s_if (b := decide (SameBy i (fun q => q ∈ (ansL i).filter fun o => decide (o ≠ x)))) (key _ decide_eq_true_iff) n6.s (fun hb G7 H7 n7 => ?_) (fun hb G7 H7 n7 => ?_)
    · have hb := of_decide_eq_true hb
      have pul := pd_len pu6
      refine s_app (((own.nxt n5).nxt n6).nxt n7) rfl (R := rN) (PA := fun z => z = x) (ev_var rfl rfl) n7.s (by omega) fun v9 G9 H9 z n9 r9 p9 own9 => ?_
      subst p9
      refine ⟨G9, (e1.trans n5.g).trans (n6.g.trans (n7.g.trans n9.g)), n9.s.mut own9.g, ((((nn.trans n5).trans n6).trans n7).trans n9).mut (n12.h.free own9.s) own9.g, ⟨_, _, rfl⟩, us ++ [v9], ys ++ [z], own9, pd_snoc (pd_mono (fun _ _ => rN.ex (n7.g.trans n9.g)) pu6) r9, ?_, fun p => ?_⟩
      · rw [List.length_append, List.length_singleton]; omega
      · rw [List.mem_append, List.mem_singleton, hmem, take1, List.mem_append, List.mem_singleton]
        constructor
        · rintro (⟨h1, h2⟩ | h)
          · exact ⟨.inl h1, h2⟩
          · subst h; exact ⟨.inr rfl, hb⟩
        · rintro ⟨h1 | h1, h2⟩
          · exact .inl ⟨h1, h2⟩
          · exact .inr h1
    · have hb := of_decide_eq_false hb
      refine ⟨G7, (e1.trans n5.g).trans (n6.g.trans n7.g), n7.s, ((nn.trans n5).trans n6).trans n7, ⟨_, _, rfl⟩, us, ys, ((own.nxt n5).nxt n6).nxt n7, pd_mono (fun _ _ => rN.ex n7.g) pu6, by omega, fun p => ?_⟩
      rw [hmem, take1, List.mem_append, List.mem_singleton]
      constructor
      · rintro ⟨h1, h2⟩
        exact ⟨.inl h1, h2⟩
      · rintro ⟨h1 | h1, h2⟩
        · exact ⟨h1, h2⟩
        · subst h1; exact absurd h2 hb
  · rintro σ' G' H' e1 e2 ⟨nn, ⟨a, b, rfl⟩, us, ys, own, pu, hlen, hmem⟩
    rw [List.take_length] at hmem
    refine s_retL nn own n12.h pu rfl fun v5 G5 H5 n5 r5 => q v5 G5 H5 ys n5 r5 fun p => ?_
    rw [hmem, mem_ansL])
end
end FW
/-! Logs that are made. -/
namespace FW
open PySem PySem.Spec PyProof.Rows L2 Hd
theorem q_fld {α : Type} {R : Rp α} {σ : L2.St} {Hs G H : Hp} {tv : TE} {D : Ends} {u : TS} {K : PySem.W.Frag} {l C dx : Addr} {fs : List (Str × V)} {i : Nat} {f : Str} {PA : α → Prop} (own : Own Hs G H l (.ins C dx fs)) (hi : σ[i]? = some (some (.ref l))) (c : Cls K C) (na : NoAttr K C f) (hl : fs.length < 1000) (h : EvP R tv σ G PA) (e : Ex G H)
    (k : ∀ v G2 H2 x, Nxt G H G2 H2 → R.is G2 v x → PA x → Own Hs G2 (upd H2 l (.ins C dx (putF f v fs))) l (.ins C dx (putF f v fs)) → u D σ (upd H2 l (.ins C dx (putF f v fs)))) : tSeq (sFld K (tVar i) tv f) u D σ H :=
  h H e _ fun v G2 H2 x n r p => ⟨.ref l, hi, l, C, dx, fs, rfl, (own.nxt n).h, c, na, hl, k v G2 H2 x n r p (own.nxt n).set⟩
theorem s_fld {α : Type} {R : Rp α} {σ : L2.St} {Hs G H : Hp} {tv : TE} {D : Ends} {K : PySem.W.Frag} {l C dx : Addr} {fs : List (Str × V)} {i : Nat} {f : Str} {PA : α → Prop} (own : Own Hs G H l (.ins C dx fs)) (hi : σ[i]? = some (some (.ref l))) (c : Cls K C) (na : NoAttr K C f) (hl : fs.length < 1000) (h : EvP R tv σ G PA) (e : Ex G H)
    (k : ∀ v G2 H2 x, Nxt G H G2 H2 → R.is G2 v x → PA x → Own Hs G2 (upd H2 l (.ins C dx (putF f v fs))) l (.ins C dx (putF f v fs)) → D.nx σ (upd H2 l (.ins C dx (putF f v fs)))) : sFld K (tVar i) tv f D σ H :=
  h H e _ fun v G2 H2 x n r p => ⟨.ref l, hi, l, C, dx, fs, rfl, (own.nxt n).h, c, na, hl, k v G2 H2 x n r p (own.nxt n).set⟩
theorem letters_are : (Str.ofString "abcdefghijklmnopqrstuvwxyz0123456789").cps.toList = lettersCps := by decide +kernel
abbrev aNam : Str → Hp → List V → Prop := fun x _ vs => NameOk x ∧ vs = [.str x]
abbrev aDft : RB.Drift → Hp → List V → Prop := fun d _ vs => vs = [.str (dStr d)]
def NamesOk (xs : List Str) (most : Int) : Prop := 1 ≤ xs.length ∧ (xs.length : Int) ≤ most ∧ (∀ x ∈ xs, NameOk x) ∧ xs.Nodup ∧ xs.length ≤ 1000
abbrev aNms : List Str × Int → Hp → List V → Prop := fun i G vs => NamesOk i.1 i.2 ∧ ∃ v, vs = [v, .int i.2] ∧ (rL rS).is G v i.1
abbrev aEvt : RB.Ev Str × List Str × Int × List Str → Hp → List V → Prop := fun i G vs => EvOk i.2.1 i.2.2.1 i.2.2.2 i.1 ∧ ∃ v w u, vs = [v, w, .int i.2.2.1, u] ∧ rE.is G v i.1 ∧ (rL rS).is G w i.2.1 ∧ (rL rS).is G u i.2.2.2
theorem ev_lenE {K : PySem.W.Frag} {ta : TE} {σ : L2.St} {G : Hp} {x : RB.Ev Str} (h : EvD rE ta σ G x) : EvD rN (tCB (fun xs H Q => ∃ x n, xs = [x] ∧ LenV K x H n ∧ Q (.int (n : Nat)) H) (tCons ta tNil)) σ G (evVs x).length := ev_lenT h fun G2 v y e r p => by
  subst p
  obtain ⟨a, rfl, ha⟩ := r
  exact ⟨a, _, rfl, ha, rfl⟩
abbrev aWe (K : PySem.W.Frag) : Log × List (RB.Ev Str) → Hp → List V → Prop := fun i G vs => (WfL i.1 ∧ WfL { i.1 with events := i.2 }) ∧ ∃ v w, vs = [v, w] ∧ (rLog K).is G v i.1 ∧ (rL rE).is G w i.2
abbrev aCe (K : PySem.W.Frag) : Log × RB.Ev Str → Hp → List V → Prop := fun i G vs => (WfL i.1 ∧ EvOk i.1.items i.1.grades (i.1.judges.map (·.1)) i.2) ∧ ∃ v w, vs = [v, w] ∧ (rLog K).is G v i.1 ∧ rE.is G w i.2
abbrev putE (L : Log) (m : Nat) (x : RB.Ev Str) : Log := { L with events := L.events.take m ++ [x] ++ L.events.drop m }
abbrev aWa (K : PySem.W.Frag) : Log × Nat × RB.Ev Str → Hp → List V → Prop := fun i G vs => (WfL i.1 ∧ i.2.1 ≤ i.1.events.length ∧ EvOk i.1.items i.1.grades (i.1.judges.map (·.1)) i.2.2 ∧ i.1.events.length + 1 ≤ 24) ∧ ∃ v w, vs = [v, .int (i.2.1 : Int), w] ∧ (rLog K).is G v i.1 ∧ rE.is G w i.2.2
def onlyL (L : Log) (pl : List Nat) : Log := { L with events := (L.events.zipIdx.filter fun z => decide (z.2 ∈ pl) || !isAns L z.2).map (·.1) }
abbrev aOnl (K : PySem.W.Frag) : Log × List Nat → Hp → List V → Prop := fun i G vs => (WfL i.1 ∧ ∀ p ∈ i.2, isAns i.1 p = true) ∧ ∃ v w, vs = [v, w] ∧ (rLog K).is G v i.1 ∧ (rL rN).is G w i.2
abbrev aWj (K : PySem.W.Frag) : Log × List (Str × RB.Drift) → Hp → List V → Prop := fun i G vs => (WfL i.1 ∧ WfL { i.1 with judges := i.2 }) ∧ ∃ v w, vs = [v, w] ∧ (rLog K).is G v i.1 ∧ (rL rJ).is G w i.2
def driftL (L : Log) (j : Str) (d : RB.Drift) : Log := { L with judges := L.judges.map fun z => (z.1, if z.1 = j then d else z.2) }
abbrev aWd (K : PySem.W.Frag) : Log × Str × RB.Drift → Hp → List V → Prop := fun i G vs => (WfL i.1 ∧ i.2.1 ∈ i.1.judges.map (·.1)) ∧ ∃ v, vs = [v, .str i.2.1, .str (dStr i.2.2)] ∧ (rLog K).is G v i.1
def backL (L : Log) : Log := { L with judges := L.judges.map fun z => (z.1, RB.flip z.2), events := L.events.reverse }
abbrev rParts : Rp (List Str × Int × List (Str × RB.Drift) × List (RB.Ev Str)) := rT4 (rL rS) FW.rI (rL rJ) (rL rE)
abbrev aMad : Log → Hp → List V → Prop := fun L G vs => WfL L ∧ ∃ v, vs = [v] ∧ rParts.is G v (L.items, L.grades, L.judges, L.events)
theorem WfL.evs {L : Log} (W : WfL L) {es : List (RB.Ev Str)} (h : ∀ x ∈ es, x ∈ L.events) (hl : es.length ≤ 24) : WfL { L with events := es } := ⟨W.iname, W.ilen0, W.ilen, W.ind, W.jname, W.jlen0, W.jlen, W.jnd, W.g1, W.g9, hl, fun x hx => W.eok x (h x hx)⟩
theorem WfL.jds {L : Log} (W : WfL L) {js : List (Str × RB.Drift)} (h : js.map (·.1) = L.judges.map (·.1)) : WfL { L with judges := js } := by
  have hl : js.length = L.judges.length := by
    have := congrArg List.length h
    rwa [List.length_map, List.length_map] at this
  refine ⟨W.iname, W.ilen0, W.ilen, W.ind, fun z hz => ?_, by show 1 ≤ js.length; rw [hl]; exact W.jlen0, by show js.length ≤ 3; rw [hl]; exact W.jlen, by show (js.map (·.1)).Nodup; rw [h]; exact W.jnd, W.g1, W.g9, W.elen, fun x hx => ?_⟩
  · have : z.1 ∈ L.judges.map (·.1) := h ▸ List.mem_map.mpr ⟨z, hz, rfl⟩
    obtain ⟨y, hy, e⟩ := List.mem_map.mp this
    rw [← e]; exact W.jname y hy
  · show EvOk L.items L.grades (js.map (·.1)) x
    rw [h]; exact W.eok x hx
theorem WfL.only {L : Log} (W : WfL L) (pl : List Nat) : WfL (onlyL L pl) := W.evs (fun x hx => by
  obtain ⟨z, hz, rfl⟩ := List.mem_map.mp hx
  have := (List.mem_filter.mp hz).1
  exact (List.mem_zipIdx_iff_getElem?.mp this |> List.mem_of_getElem?)) (by
  rw [List.length_map]
  exact Nat.le_trans (List.length_filter_le _ _) (by rw [List.length_zipIdx]; exact W.elen))
theorem WfL.driftL {L : Log} (W : WfL L) (j : Str) (d : RB.Drift) : WfL (driftL L j d) := W.jds (by rw [List.map_map]; rfl)
theorem WfL.back {L : Log} (W : WfL L) : WfL (backL L) := by
  have h1 : WfL { L with judges := L.judges.map fun z => (z.1, RB.flip z.2) } := W.jds (by rw [List.map_map]; rfl)
  exact h1.evs (es := L.events.reverse) (fun x hx => List.mem_reverse.mp hx) (by rw [List.length_reverse]; exact W.elen)
theorem WfL.put {L : Log} (W : WfL L) {m : Nat} {x : RB.Ev Str} (hx : EvOk L.items L.grades (L.judges.map (·.1)) x) (hl : L.events.length + 1 ≤ 24) : WfL (putE L m x) := by
  refine ⟨W.iname, W.ilen0, W.ilen, W.ind, W.jname, W.jlen0, W.jlen, W.jnd, W.g1, W.g9, ?_, fun y hy => ?_⟩
  · show (L.events.take m ++ [x] ++ L.events.drop m).length ≤ 24
    simp only [List.length_append, List.length_take, List.length_drop, List.length_singleton]
    omega
  · have hy : y ∈ L.events.take m ++ [x] ++ L.events.drop m := hy
    rcases List.mem_append.mp hy with hy | hy
    · rcases List.mem_append.mp hy with hy | hy
      · exact W.eok y (List.mem_of_mem_take hy)
      · rw [List.mem_singleton.mp hy]; exact hx
    · exact W.eok y (List.mem_of_mem_drop hy)
section
variable {P : Program} {w : World} {K : PySem.W.Frag} {mg : Str → Option Value} {base : Heap}

abbrev N_is_name : List Str := ["text", "sign"]
theorem sc_is_name : FnScope N_is_name ["text"] (defScope s_is_name) := ⟨rfl, rfl, rfl, by decide +kernel, rfl, by decide +kernel, by decide +kernel⟩
theorem mk_is_name (T : Tx K mg) {sp : Sp} (len : ∀ vs H Q E, sp vs H Q E → vs.length = 1)
    (hb : ∀ (cdv : Value) (A : Around) (outer : List Env) (s : Shared) (H : Hp) (vs : List V) (Q : VK) (E : XK), Room 0 (A.deeper (envOfC "is_name" (defScope s_is_name) s.heap.objs.size (He.ga K "is_name") cdv)) → sp vs H Q E →
      ∃ t, PSs (cxOf CX0 P w K mg base N_is_name "is_name" (defScope s_is_name) (He.ga K "is_name") cdv A outer s H E).nox (defBody s_is_name) t ∧ t { nx := fun _ H' => Q .non H', rt := Q } (start N_is_name vs) H) : Cal P w K mg base 1 "is_name" sp := by
  obtain ⟨fd, F⟩ := T.fn 28 rfl
  have b : Binds K fd ["text"] [] := F.binds fun _ _ _ _ _ _ us hl => match us, hl with | [_], _ => rfl
  exact ⟨_, fd, _, F.ok sc_is_name len hb, T.glo 27 rfl, F.kp, b⟩
def sp_is_name (K : PySem.W.Frag) : Sp := mkSp (aNam) (rB) (fun _ y => y = true)
theorem ln_is_name {K : PySem.W.Frag} : ∀ vs H Q E, sp_is_name K vs H Q E → vs.length = 1 := by
  rintro vs H Q E ⟨G, i, e, h, _⟩
  have h : (aNam) i G vs := h
  obtain ⟨_, rfl⟩ := h; rfl
theorem ok_is_name (T : Tx K mg) : Cal P w K mg base 1 "is_name" (sp_is_name K) := mk_is_name T ln_is_name (fun cdv A outer s H vs Q E hr h => by
  have hu := hu_of hr
  have nd := sc_is_name.nd
  obtain ⟨G, i, e, ha, q⟩ := h
  refine ⟨_, pss_one (ps_ret (pe_and (pe_chain op_le op_le (pe_int) (pe_callB call_len_str (by rfl) (T.free 74 rfl) (by decide +kernel) (pa_cons (pv 0) pa_nil)) (pe_int)) (pe_one (pe_callB (k_all (K := K) rfl rfl) (by rfl) (T.free 79 rfl) (by decide +kernel) (pa_cons (pe_lc (own := [("sign", 1)]) (g := (gName 1)) (tt := tYes) rfl nd (pi_str (pv 0)) (blkOk_by (by kernel_rfl)) (fun _ _ _ _ _ => pg_name (i := 1) nd rfl (by first | exact Or.inl rfl | exact Or.inr rfl)) (fun _ _ _ _ _ => pts_nil) (fun _ _ _ _ _ => pe_cmpR op_in_sign (pv 1) (pe_gs (T.str 87 rfl)) rfl)) pa_nil))))), ?_⟩
  obtain ⟨hn, rfl⟩ := ha
  have h12 := hn.2.1
  have h1 := hn.1
  refine s_ret (ev_val (ev_andV (a := true) (b := true) (ev_val (ev_chainI (r := fun i j => decide (i ≤ j)) (r' := fun i j => decide (i ≤ j)) ev_int (ev_N (ev_lenStr (z := i) (ev_var rfl rfl) (by omega))) ev_int) ?_) fun _ => ev_val (ev_all (ev_lcM (R := rS) (f := fun x : Str => x.cps.toList.all fun c => decide (c ∈ lettersCps)) (ei_str (z := i) (ev_var rfl rfl)) (by rw [List.length_map, Array.length_toList]; exact Nat.le_trans h12 (by decide)) fun x hx G2 u e2 r => ?_)) ?_) rfl) e fun v G2 H2 n r => q v G2 H2 true n r rfl
  · show (decide ((1 : Int) ≤ (i.length : Int)) && decide ((i.length : Int) ≤ 12)) = true
    rw [decide_eq_true (by omega), decide_eq_true (by omega)]; rfl
  · cases r
    obtain ⟨c, hc, rfl⟩ := List.mem_map.mp hx
    refine ⟨_, tg_name, rfl, ?_⟩
    intro H3 e3 Q3 q3
    refine ⟨_, rfl, c, _, rfl, rfl, q3 _ G2 H3 _ (Nxt.refl e3) rfl ?_⟩
    rw [letters_are]
    show decide (c ∈ lettersCps) = (decide (c ∈ lettersCps) && true)
    rw [Bool.and_true]
  · rw [List.all_eq_true]
    intro b hb
    obtain ⟨x, hx, rfl⟩ := List.mem_map.mp hb
    obtain ⟨c, hc, rfl⟩ := List.mem_map.mp hx
    show ([c].all fun c => decide (c ∈ lettersCps)) = true
    rw [List.all_cons, decide_eq_true (hn.2.2 c hc)]
    rfl)
abbrev N_is_drift : List Str := ["text"]
theorem sc_is_drift : FnScope N_is_drift ["text"] (defScope s_is_drift) := ⟨rfl, rfl, rfl, by decide +kernel, rfl, by decide +kernel, by decide +kernel⟩
theorem mk_is_drift (T : Tx K mg) {sp : Sp} (len : ∀ vs H Q E, sp vs H Q E → vs.length = 1)
    (hb : ∀ (cdv : Value) (A : Around) (outer : List Env) (s : Shared) (H : Hp) (vs : List V) (Q : VK) (E : XK), Room 0 (A.deeper (envOfC "is_drift" (defScope s_is_drift) s.heap.objs.size (He.ga K "is_drift") cdv)) → sp vs H Q E →
      ∃ t, PSs (cxOf CX0 P w K mg base N_is_drift "is_drift" (defScope s_is_drift) (He.ga K "is_drift") cdv A outer s H E).nox (defBody s_is_drift) t ∧ t { nx := fun _ H' => Q .non H', rt := Q } (start N_is_drift vs) H) : Cal P w K mg base 1 "is_drift" sp := by
  obtain ⟨fd, F⟩ := T.fn 29 rfl
  have b : Binds K fd ["text"] [] := F.binds fun _ _ _ _ _ _ us hl => match us, hl with | [_], _ => rfl
  exact ⟨_, fd, _, F.ok sc_is_drift len hb, T.glo 28 rfl, F.kp, b⟩
def sp_is_drift (K : PySem.W.Frag) : Sp := mkSp (aDft) (rB) (fun _ y => y = true)
theorem ln_is_drift {K : PySem.W.Frag} : ∀ vs H Q E, sp_is_drift K vs H Q E → vs.length = 1 := by
  rintro vs H Q E ⟨G, i, e, h, _⟩
  have h : (aDft) i G vs := h
  have h : vs = _ := h; subst h; rfl
theorem ok_is_drift (T : Tx K mg) : Cal P w K mg base 1 "is_drift" (sp_is_drift K) := mk_is_drift T ln_is_drift (fun cdv A outer s H vs Q E hr h => by
  have hu := hu_of hr
  have nd := sc_is_drift.nd
  obtain ⟨G, i, e, ha, q⟩ := h
  refine ⟨_, pss_one (ps_ret (pe_cmpR (k_in (K := K) rfl) (pv 0) (pe_tup (pa_cons (pe_gs (T.str 88 rfl)) (pa_cons (pe_gs (T.str 89 rfl)) (pa_cons (pe_gs (T.str 90 rfl)) pa_nil)))) rfl)), ?_⟩
  have ha : vs = [.str (dStr i)] := ha
  subst ha
  refine s_ret (R := rB) (x := true) ?_ e fun v G2 H2 n r => q v G2 H2 true n r rfl
  refine ev_op (R := rS) (S := rT3 rS rS rS) (PB := fun z => z.1 = "rises" ∧ z.2.1 = "falls" ∧ z.2.2 = "stays") (ev_var rfl rfl) (ev_tup3 ev_str ev_str ev_str) fun G3 v3 x3 w3 y3 e3 r3 p3 r4 p4 H3 e4 Q3 q3 => ?_
  subst p3
  cases r3
  obtain ⟨a, v5, v6, v7, rfl, h4, h5, h6, h7⟩ := r4
  cases h5; cases h6; cases h7
  obtain ⟨y1, y2, y3⟩ := y3
  obtain ⟨h1, h2, h3⟩ := p4
  have h1 : y1 = "rises" := h1
  have h2 : y2 = "falls" := h2
  have h3 : y3 = "stays" := h3
  subst h1 h2 h3
  refine ⟨a, _, rfl, .inr (SqT.of (e4 a _ h4)), rfl, rfl, q3 _ G3 H3 true (Nxt.refl e4) ?_ rfl⟩
  show V.bl _ = V.bl true
  have key := inV_strs (dStr i) ["rises", "falls", "stays"]
  congr 1
  show (inV (.str (dStr i)) ((["rises", "falls", "stays"] : List Str).map V.str)) = true
  rw [key]
  exact decide_eq_true (by cases i <;> simp [dStr]))
abbrev N_are_names : List Str := ["texts", "most", "text"]
theorem sc_are_names : FnScope N_are_names ["texts", "most"] (defScope s_are_names) := ⟨rfl, rfl, rfl, by decide +kernel, rfl, by decide +kernel, by decide +kernel⟩
theorem mk_are_names (T : Tx K mg) {sp : Sp} (len : ∀ vs H Q E, sp vs H Q E → vs.length = 2)
    (hb : ∀ (cdv : Value) (A : Around) (outer : List Env) (s : Shared) (H : Hp) (vs : List V) (Q : VK) (E : XK), Room 1 (A.deeper (envOfC "are_names" (defScope s_are_names) s.heap.objs.size (He.ga K "are_names") cdv)) → sp vs H Q E →
      ∃ t, PSs (cxOf CX0 P w K mg base N_are_names "are_names" (defScope s_are_names) (He.ga K "are_names") cdv A outer s H E).nox (defBody s_are_names) t ∧ t { nx := fun _ H' => Q .non H', rt := Q } (start N_are_names vs) H) : Cal P w K mg base 2 "are_names" sp := by
  obtain ⟨fd, F⟩ := T.fn 30 rfl
  have b : Binds K fd ["texts", "most"] [] := F.binds fun _ _ _ _ _ _ us hl => match us, hl with | [_, _], _ => rfl
  exact ⟨_, fd, _, F.ok sc_are_names len hb, T.glo 29 rfl, F.kp, b⟩
def sp_are_names (K : PySem.W.Frag) : Sp := mkSp (aNms) (rB) (fun _ y => y = true)
theorem ln_are_names {K : PySem.W.Frag} : ∀ vs H Q E, sp_are_names K vs H Q E → vs.length = 2 := by
  rintro vs H Q E ⟨G, i, e, h, _⟩
  have h : (aNms) i G vs := h
  obtain ⟨_, v, rfl, _⟩ := h; rfl
theorem ok_are_names (T : Tx K mg) : Cal P w K mg base 2 "are_names" (sp_are_names K) := mk_are_names T ln_are_names (fun cdv A outer s H vs Q E hr h => by
  have hu := hu_of hr
  have nd := sc_are_names.nd
  obtain ⟨G, i, e, ha, q⟩ := h
  refine ⟨_, pss_one (ps_ret (pe_and (pe_chain op_le op_le (pe_int) (pe_callB (k_len (K := K) rfl) (by rfl) (T.free 74 rfl) (by decide +kernel) (pa_cons (pv 0) pa_nil)) (pv 1)) (pe_and (pe_callB (k_all (K := K) rfl rfl) (by rfl) (T.free 79 rfl) (by decide +kernel) (pa_cons (pe_lc (own := [("text", 2)]) (g := (gName 2)) (tt := tYes) rfl nd (k_iList (K := K) rfl (pv 0)) (blkOk_by (by kernel_rfl)) (fun _ _ _ _ _ => pg_name (i := 2) nd rfl (by first | exact Or.inl rfl | exact Or.inr rfl)) (fun _ _ _ _ _ => pts_nil) (fun _ _ _ _ _ => pe_c (ok_is_name T) hr (pa_cons (pv 2) pa_nil))) pa_nil)) (pe_one (pe_cmpR op_eq (pe_lenSetS hr (pv 0) (T.free 74 rfl) (T.free 81 rfl)) (pe_callB (k_len (K := K) rfl) (by rfl) (T.free 74 rfl) (by decide +kernel) (pa_cons (pv 0) pa_nil)) (nomark _)))))), ?_⟩
  obtain ⟨xs, most⟩ := i
  dsimp only [aNms] at ha
  obtain ⟨⟨h1, hm, hn, hnd, h1000⟩, v, rfl, hv⟩ := ha
  refine s_ret (ev_val (ev_andV (a := true) (b := true) (ev_val (ev_chainI (r := fun i j => decide (i ≤ j)) (r' := fun i j => decide (i ≤ j)) ev_int (ev_N (ev_len (ev_var rfl hv))) (ev_var rfl rfl)) ?_) fun _ => ev_val (ev_andV (a := true) (b := true) (ev_val (ev_all (ev_lcM (R := rS) (f := fun _ => true) (ei_list (ev_var rfl hv)) (by omega) fun x hx G2 u e2 r => ?_)) ?_) fun _ => ?_) rfl) rfl) e fun v G2 H2 n r => q v G2 H2 true n r rfl
  · show (decide ((1 : Int) ≤ (xs.length : Int)) && decide ((xs.length : Int) ≤ most)) = true
    rw [decide_eq_true (by omega), decide_eq_true (by omega)]; rfl
  · cases r
    exact ⟨_, tg_name, rfl, ev_call1 (R := rS) (PA := fun y => y = x) (ev_var rfl rfl) fun G3 v1 x1 e3 r1 p1 => by
      subst p1; cases r1
      exact mkSp_use (args := aNam) x1 ⟨hn x1 hx, rfl⟩⟩
  · rw [List.all_eq_true]
    intro b hb
    obtain ⟨x, hx, rfl⟩ := List.mem_map.mp hb
    rfl
  · refine ev_val (ev_eqI (x := (xs.length : Int)) (y := (xs.length : Int)) ?_ (ev_N (ev_len (ev_var rfl hv)))) (decide_eq_true rfl)
    intro H3 e3 Q3 q3
    obtain ⟨a, us, rfl, ha, hp⟩ := hv
    exact ⟨_, rfl, a, xs, rfl, SqL.of (by rw [← pd_strs hp]; exact e3 a _ ha), hnd, h1000, q3 _ G H3 _ (Nxt.refl e3) rfl rfl⟩)
abbrev N_is_event : List Str := ["event", "items", "grades", "judges"]
theorem sc_is_event : FnScope N_is_event ["event", "items", "grades", "judges"] (defScope s_is_event) := ⟨rfl, rfl, rfl, by decide +kernel, rfl, by decide +kernel, by decide +kernel⟩
theorem mk_is_event (T : Tx K mg) {sp : Sp} (len : ∀ vs H Q E, sp vs H Q E → vs.length = 4)
    (hb : ∀ (cdv : Value) (A : Around) (outer : List Env) (s : Shared) (H : Hp) (vs : List V) (Q : VK) (E : XK), Room 0 (A.deeper (envOfC "is_event" (defScope s_is_event) s.heap.objs.size (He.ga K "is_event") cdv)) → sp vs H Q E →
      ∃ t, PSs (cxOf CX0 P w K mg base N_is_event "is_event" (defScope s_is_event) (He.ga K "is_event") cdv A outer s H E).nox (defBody s_is_event) t ∧ t { nx := fun _ H' => Q .non H', rt := Q } (start N_is_event vs) H) : Cal P w K mg base 1 "is_event" sp := by
  obtain ⟨fd, F⟩ := T.fn 31 rfl
  have b : Binds K fd ["event", "items", "grades", "judges"] [] := F.binds fun _ _ _ _ _ _ us hl => match us, hl with | [_, _, _, _], _ => rfl
  exact ⟨_, fd, _, F.ok sc_is_event len hb, T.glo 30 rfl, F.kp, b⟩
def sp_is_event (K : PySem.W.Frag) : Sp := mkSp (aEvt) (rB) (fun _ y => y = true)
theorem ln_is_event {K : PySem.W.Frag} : ∀ vs H Q E, sp_is_event K vs H Q E → vs.length = 4 := by
  rintro vs H Q E ⟨G, i, e, h, _⟩
  have h : (aEvt) i G vs := h
  obtain ⟨_, v, w, u, rfl, _⟩ := h; rfl
theorem ok_is_event (T : Tx K mg) : Cal P w K mg base 1 "is_event" (sp_is_event K) := mk_is_event T ln_is_event (fun cdv A outer s H vs Q E hr h => by
  have hu := hu_of hr
  have nd := sc_is_event.nd
  obtain ⟨G, i, e, ha, q⟩ := h
  refine ⟨_, pss_cons (ps_if (PW.pt (pw_and (pt_cmpR op_eq (pe_callB (k_len (K := K) rfl) (by rfl) (T.free 74 rfl) (by decide +kernel) (pa_cons (pv 0) pa_nil)) (pe_int) (nomark _)) (pw_and1 (pt_cmpR op_eq (pe_ix (k_ixT (K := K) rfl) (pv 0) (pe_int) (fun _ _ => rfl)) (pe_gs (T.str 92 rfl)) (nomark _))))) (pss_one (ps_ret (pe_cmpR (k_in (K := K) rfl) (pe_ix (k_ixT (K := K) rfl) (pv 0) (pe_int) (fun _ _ => rfl)) (pv 3) rfl))) (pss_nil))
      (pss_cons (ps_if (PW.pt (pw_or (pt_cmpR op_ne (pe_callB (k_len (K := K) rfl) (by rfl) (T.free 74 rfl) (by decide +kernel) (pa_cons (pv 0) pa_nil)) (pe_int) (nomark _)) (pw_or1 (pt_cmpR op_ne (pe_ix (k_ixT (K := K) rfl) (pv 0) (pe_int) (fun _ _ => rfl)) (pe_gs (T.str 91 rfl)) (nomark _))))) (pss_one (ps_ret (pe_bl))) (pss_nil))
      (pss_one (ps_ret (pe_and (pe_cmpR (k_in (K := K) rfl) (pe_ix (k_ixT (K := K) rfl) (pv 0) (pe_int) (fun _ _ => rfl)) (pv 3) rfl) (pe_and (pe_cmpR (k_in (K := K) rfl) (pe_ix (k_ixT (K := K) rfl) (pv 0) (pe_int) (fun _ _ => rfl)) (pv 1) rfl) (pe_one (pe_chain op_le op_le (pe_int) (pe_ix (k_ixT (K := K) rfl) (pv 0) (pe_int) (fun _ _ => rfl)) (pv 2)))))))), ?_⟩
  obtain ⟨x, items, g, names⟩ := i
  dsimp only [aEvt] at ha
  obtain ⟨hok, v, w1, u1, rfl, hv, hw, hu1⟩ := ha
  cases x with
  | res j =>
    refine q_if1 (b := true) (et_val (et_and (a := true) (b := true) (et_test (ev_val (ev_eqI (ev_N (ev_lenE (ev_var rfl hv))) ev_int) (decide_eq_true rfl))) fun _ => et_test (ev_val (ev_eqS (ev_kind (ev_var rfl hv)) ev_str) (decide_eq_true rfl))) rfl) e (fun _ G2 H2 n2 => ?_) (fun hb => by cases hb)
    exact s_ret (ev_val (ev_inS (ev_judge (ev_var rfl (rE.ex n2.g hv))) (ev_var rfl ((rL rS).ex n2.g hu1))) (decide_eq_true hok)) n2.s fun v5 G5 H5 n5 r5 => q v5 G5 H5 true (n2.trans n5) r5 rfl
  | ans j it gr =>
    refine q_if1 (b := false) (et_val (et_and (a := false) (b := true) (et_test (ev_val (ev_eqI (ev_N (ev_lenE (ev_var rfl hv))) ev_int) (decide_eq_false (show ¬ (((4 : Nat) : Int) = 2) by decide)))) fun hb => by cases hb) rfl) e (fun hb => by cases hb) (fun _ G2 H2 n2 => ?_)
    have hv2 := rE.ex n2.g hv
    refine q_if1 (b := false) (et_val (et_or (a := false) (b := false) (et_test (ev_val (ev_neI (ev_N (ev_lenE (ev_var rfl hv2))) ev_int) (by show (!decide (((4 : Nat) : Int) = 4)) = false; decide))) fun _ => et_test (ev_val (ev_neS (ev_kind (ev_var rfl hv2)) ev_str) (by rw [decide_eq_true (show kindOf (.ans j it gr) = "answer" from rfl)]; rfl))) rfl) n2.s (fun hb => by cases hb) (fun _ G3 H3 n3 => ?_)
    have n23 := n2.trans n3
    have hv3 := rE.ex n23.g hv
    obtain ⟨h1, h2, h3, h4⟩ := hok
    refine s_ret (ev_val (ev_andV (a := true) (b := true) (ev_val (ev_inS (ev_judge (ev_var rfl hv3)) (ev_var rfl ((rL rS).ex n23.g hu1))) (decide_eq_true h1)) fun _ => ev_val (ev_andV (a := true) (b := true) (ev_val (ev_inS (ev_item (ev_var rfl hv3)) (ev_var rfl ((rL rS).ex n23.g hw))) (decide_eq_true h2)) fun _ => ev_val (ev_chainI (r := fun i j => decide (i ≤ j)) (r' := fun i j => decide (i ≤ j)) ev_int (ev_grade (ev_var rfl hv3)) (ev_var rfl rfl)) ?_) rfl) rfl) n3.s fun v5 G5 H5 n5 r5 => q v5 G5 H5 true (n23.trans n5) r5 rfl
    show (decide ((0 : Int) ≤ gr) && decide (gr ≤ g)) = true
    rw [decide_eq_true h3, decide_eq_true h4]; rfl)
abbrev N_Log_init : List Str := ["self", "items", "grades", "judges", "events", "names", "judge", "event"]
theorem sc_Log_init : FnScope N_Log_init ["self", "items", "grades", "judges", "events"] (defScope s_Log_init) := ⟨rfl, rfl, rfl, by decide +kernel, rfl, by decide +kernel, by decide +kernel⟩
theorem mk_Log_init (T : Tx K mg) {sp : Sp} (len : ∀ vs H Q E, sp vs H Q E → vs.length = 5)
    (hb : ∀ (cdv : Value) (A : Around) (outer : List Env) (s : Shared) (H : Hp) (vs : List V) (Q : VK) (E : XK), Room 2 (A.deeper (envOfC "Log.__init__" (defScope s_Log_init) s.heap.objs.size (He.ma K (He.ga K "Log") "__init__") cdv)) → sp vs H Q E →
      ∃ t, PSs (cxOf CX0 P w K mg base N_Log_init "Log.__init__" (defScope s_Log_init) (He.ma K (He.ga K "Log") "__init__") cdv A outer s H E).nox (defBody s_Log_init) t ∧ t { nx := fun _ H' => Q .non H', rt := Q } (start N_Log_init vs) H) : Mak P w K mg base 3 "Log" (He.ga K "Log") sp := by
  obtain ⟨fd, F⟩ := T.fn 32 rfl
  have b : Binds K fd ["self", "items", "grades", "judges", "events"] [] := F.binds fun _ _ _ _ _ _ us hl => match us, hl with | [_, _, _, _, _], _ => rfl
  exact ⟨_, fd, _, T.mkr 38 rfl, F.ok sc_Log_init len hb, T.glo 36 rfl, b⟩
def sp_Log_init (K : PySem.W.Frag) : Sp := fun vs H Q _ => ∃ (G0 H0 G : Hp) (L : Log) (x dx : Addr) (v1 v3 v4 : V), vs = [.ref x, v1, .int L.grades, v3, v4] ∧ Nxt G0 H0 G H ∧ Own H0 G H x (.ins (cLog K) dx []) ∧ WfL L ∧ (rL rS).is G v1 L.items ∧ (rL rJ).is G v3 L.judges ∧ (rL rE).is G v4 L.events ∧
  ∀ G2 H2, Nxt G0 H0 G2 H2 → (rLog K).is G2 (.ref x) L → Q .non H2
theorem ln_Log_init {K : PySem.W.Frag} : ∀ vs H Q E, sp_Log_init K vs H Q E → vs.length = 5 := by
  rintro vs H Q E ⟨_, _, _, _, _, _, _, _, _, rfl, _⟩; rfl
theorem ok_Log_init (T : Tx K mg) : Mak P w K mg base 3 "Log" (He.ga K "Log") (sp_Log_init K) := mk_Log_init T ln_Log_init (fun cdv A outer s H vs Q E hr h => by
  have hu := hu_of hr
  have nd := sc_Log_init.nd
  obtain ⟨G0, H0, G, L, x, dx, v1, v3, v4, rfl, n0, own, W, h1, h3, h4, q⟩ := h
  refine ⟨_, pss_cons (ps_if (pt_not (pt_val (pe_callB (k_all (K := K) rfl rfl) (by rfl) (T.free 79 rfl) (by decide +kernel) (pa_cons (pe_lc (own := [("judge", 6)]) (g := (gName 6)) (tt := tYes) rfl nd (k_iList (K := K) rfl (pv 3)) (blkOk_by (by kernel_rfl)) (fun _ _ _ _ _ => pg_name (i := 6) nd rfl (by first | exact Or.inl rfl | exact Or.inr rfl)) (fun _ _ _ _ _ => pts_nil) (fun _ _ _ _ _ => pe_and (pe_cmpR op_eq (pe_callB (k_len (K := K) rfl) (by rfl) (T.free 74 rfl) (by decide +kernel) (pa_cons (pv 6) pa_nil)) (pe_int) (nomark _)) (pe_one (pe_c (ok_is_drift T) hr (pa_cons (pe_ix (k_ixT (K := K) rfl) (pv 6) (pe_int) (fun _ _ => rfl)) pa_nil))))) pa_nil)))) (pss_one (ps_never)) (pss_nil))
      (pss_cons (ps_set (i := 5) nd rfl (Or.inr rfl) (pe_lc (own := [("judge", 6)]) (g := (gName 6)) (tt := tYes) rfl nd (k_iList (K := K) rfl (pv 3)) (blkOk_by (by kernel_rfl)) (fun _ _ _ _ _ => pg_name (i := 6) nd rfl (by first | exact Or.inl rfl | exact Or.inr rfl)) (fun _ _ _ _ _ => pts_nil) (fun _ _ _ _ _ => pe_ix (k_ixT (K := K) rfl) (pv 6) (pe_int) (fun _ _ => rfl))))
      (pss_cons (ps_if (PW.pt (pw_or (pt_not (pt_val (pe_c (ok_are_names T) hr (pa_cons (pv 1) (pa_cons (pe_gi (T.int 93 rfl)) pa_nil))))) (pw_or (pt_not (pt_val (pe_c (ok_are_names T) hr (pa_cons (pv 5) (pa_cons (pe_gi (T.int 94 rfl)) pa_nil))))) (pw_or1 (pt_not (pt_chain op_le op_le (pe_int) (pv 2) (pe_gi (T.int 96 rfl)))))))) (pss_one (ps_never)) (pss_nil))
      (pss_cons (ps_if (PW.pt (pw_or (pt_cmpR op_gt (pe_callB (k_len (K := K) rfl) (by rfl) (T.free 74 rfl) (by decide +kernel) (pa_cons (pv 4) pa_nil)) (pe_gi (T.int 95 rfl)) (nomark _)) (pw_or1 (pt_not (pt_val (pe_callB (k_all (K := K) rfl rfl) (by rfl) (T.free 79 rfl) (by decide +kernel) (pa_cons (pe_lc (own := [("event", 7)]) (g := (gName 7)) (tt := tYes) rfl nd (k_iList (K := K) rfl (pv 4)) (blkOk_by (by kernel_rfl)) (fun _ _ _ _ _ => pg_name (i := 7) nd rfl (by first | exact Or.inl rfl | exact Or.inr rfl)) (fun _ _ _ _ _ => pts_nil) (fun _ _ _ _ _ => pe_c (ok_is_event T) hr (pa_cons (pv 7) (pa_cons (pv 1) (pa_cons (pv 2) (pa_cons (pv 5) pa_nil)))))) pa_nil))))))) (pss_one (ps_never)) (pss_nil))
      (pss_cons (ps_fld (pv 0) (pe_callTy (k_list (K := K) rfl) (by rfl) (T.free 82 rfl) (by decide +kernel) (pa_cons (pv 1) pa_nil)) rfl)
      (pss_cons (ps_fld (pv 0) (pv 2) rfl)
      (pss_cons (ps_fld (pv 0) (pe_callTy (k_list (K := K) rfl) (by rfl) (T.free 82 rfl) (by decide +kernel) (pa_cons (pv 3) pa_nil)) rfl)
      (pss_one (ps_fld (pv 0) (pe_callTy (k_list (K := K) rfl) (by rfl) (T.free 82 rfl) (by decide +kernel) (pa_cons (pv 4) pa_nil)) rfl)))))))), ?_⟩
  have hj3 := W.jlen
  have hj0 := W.jlen0
  have hi6 := W.ilen
  have hi0 := W.ilen0
  have hel := W.elen
  refine q_if1 (b := false) (et_not (et_B (ev_val (y := true) (ev_all (ev_lcM (R := rJ) (f := fun _ => true) (ei_list (ev_var rfl h3)) (by omega) fun z hz G2 u e2 r => ?_)) ?_))) n0.s (fun hb => by cases hb) fun _ G2 H2 n2 => ?_
  · refine ⟨_, tg_name, rfl, ev_val (ev_andV (a := true) (b := true) (ev_val (ev_eqI (ev_N (ev_lenT (n := 2) (ev_var rfl r) fun G3 v y e r p => ?_)) ev_int) (decide_eq_true rfl)) fun _ => ev_call1 (R := rDf) (ev_ixT2_1 (ev_var rfl r)) fun G3 v1 x1 e3 r1 p1 => ?_) rfl⟩
    · obtain ⟨a, v1, v2, rfl, ha, _⟩ := r
      exact ⟨a, _, rfl, ha, rfl⟩
    · exact mkSp_use (args := aDft) x1 (show [v1] = _ by rw [show v1 = .str (dStr x1) from r1])
  · rw [List.all_eq_true]
    intro b hb
    obtain ⟨z, hz, rfl⟩ := List.mem_map.mp hb
    rfl
  refine q_asg (R := rL rS) (x := L.judges.map fun z => z.1) (ev_lcM (R := rJ) (f := fun z => z.1) (ei_list (ev_var rfl ((rL rJ).ex n2.g h3))) (by omega) fun z hz G3 u e3 r => ⟨_, tg_name, rfl, ev_ixT2_0 (ev_var rfl r)⟩) n2.s fun vn G3 H3 n3 rn => ?_
  have g3 : Ex G G3 := n2.g.trans n3.g
  have names : ∀ (i : Nat) (σ : L2.St) (va : V) (xs : List Str) (most : Int) (G3 : Hp) (tm : TE) (hm : EvD FW.rI tm σ G3 most), σ[i]? = some (some va) → (rL rS).is G3 va xs → NamesOk xs most → EvT (tB (tCall (sp_are_names K) [] E0 (tCons (tVar i) (tCons tm tNil)))) σ G3 true := fun i σ va xs most G3 tm hm h1 h2 h3 =>
    et_B (ev_call2 (R := rL rS) (S := FW.rI) (ev_var h1 h2) hm fun G4 a b a2 b2 e4 r1 p1 r2 p2 => by
      subst p1 p2
      cases r2
      exact mkSp_use (args := aNms) (b, b2) ⟨h3, a, rfl, r1⟩)
  refine q_if1 (b := false) (et_val (et_or (a := false) (b := false) (et_not (names 1 _ v1 L.items 20 G3 _ ev_int rfl ((rL rS).ex g3 h1) ⟨hi0, by omega, W.iname, W.ind, by omega⟩)) fun _ => et_val (et_or (a := false) (b := false) (et_not (names 5 _ vn (L.judges.map fun z => z.1) 8 G3 _ ev_int rfl rn ⟨by rw [List.length_map]; exact hj0, by rw [List.length_map]; omega, fun x hx => ?_, W.jnd, by rw [List.length_map]; omega⟩)) fun _ => et_not (et_test (ev_val (y := true) (ev_chainI (r := fun i j => decide (i ≤ j)) (r' := fun i j => decide (i ≤ j)) ev_int (ev_var rfl rfl) ev_int) ?_))) rfl) rfl) n3.s (fun hb => by cases hb) fun _ G4 H4 n4 => ?_
  · obtain ⟨z, hz, rfl⟩ := List.mem_map.mp hx
    exact W.jname z hz
  · show (decide ((1 : Int) ≤ L.grades) && decide (L.grades ≤ 9)) = true
    rw [decide_eq_true W.g1, decide_eq_true W.g9]; rfl
  have g4 : Ex G G4 := g3.trans n4.g
  refine q_if1 (b := false) (et_val (et_or (a := false) (b := false) (et_test (ev_val (ev_cmpI (r := fun i j => decide (j < i)) (ev_N (ev_len (ev_var rfl ((rL rE).ex g4 h4)))) ev_int) (decide_eq_false (by omega)))) fun _ => et_not (et_B (ev_val (y := true) (ev_all (ev_lcM (R := rE) (f := fun _ => true) (ei_list (ev_var rfl ((rL rE).ex g4 h4))) (by omega) fun z hz G5 u e5 r => ?_)) ?_))) rfl) n4.s (fun hb => by cases hb) fun _ G5 H5 n5 => ?_
  · refine ⟨_, tg_name, rfl, ev_call4 (R := rE) (S := rL rS) (T := FW.rI) (U := rL rS) (ev_var rfl r) (ev_var rfl ((rL rS).ex (g4.trans e5) h1)) (ev_var rfl rfl) (ev_var rfl ((rL rS).ex (n4.g.trans e5) rn)) fun G6 a1 b1 a2 b2 a3 b3 a4 b4 e6 q1 p1 q2 p2 q3 p3 q4 p4 => ?_⟩
    subst p1 p2 p3 p4
    cases q3
    exact mkSp_use (args := aEvt) (b1, L.items, L.grades, L.judges.map fun z => z.1) ⟨W.eok b1 hz, a1, a2, a4, rfl, q1, q2, q4⟩
  · rw [List.all_eq_true]
    intro b hb
    obtain ⟨z, hz, rfl⟩ := List.mem_map.mp hb
    rfl
  have n05 := (((n0.trans n2).trans n3).trans n4).trans n5
  have own5 := (((own.nxt n2).nxt n3).nxt n4).nxt n5
  have g5 : Ex G G5 := g4.trans n5.g
  refine q_fld (R := rL rS) (PA := fun y => y = L.items) own5 rfl (T.cls 37 rfl) (T.noat 44 rfl) (by decide) (ev_list (ev_var rfl ((rL rS).ex g5 h1))) n5.s fun w1 G6 H6 y1 n6 r1 p1 own6 => ?_
  subst p1
  refine q_fld (R := FW.rI) (PA := fun y => y = L.grades) own6 rfl (T.cls 37 rfl) (T.noat 45 rfl) (by show 1 < 1000; decide) (ev_var rfl rfl) (n6.s.mut own6.g) fun w2 G7 H7 y2 n7 r2 p2 own7 => ?_
  subst p2
  cases r2
  refine q_fld (R := rL rJ) (PA := fun y => y = L.judges) own7 rfl (T.cls 37 rfl) (T.noat 46 rfl) (by show 2 < 1000; decide) (ev_list (ev_var rfl ((rL rJ).ex ((g5.trans n6.g).trans n7.g) h3))) (n7.s.mut own7.g) fun w3 G8 H8 y3 n8 r3 p3 own8 => ?_
  subst p3
  refine s_fld (R := rL rE) (PA := fun y => y = L.events) own8 rfl (T.cls 37 rfl) (T.noat 47 rfl) (by show 3 < 1000; decide) (ev_list (ev_var rfl ((rL rE).ex (((g5.trans n6.g).trans n7.g).trans n8.g) h4))) (n8.s.mut own8.g) fun w4 G9 H9 y4 n9 r4 p4 own9 => ?_
  subst p4
  have nn6 := (n05.trans n6).mut (o := .ins (cLog K) dx (putF "_items" w1 [])) own.s own6.g
  have nn7 := (nn6.trans n7).mut (o := .ins (cLog K) dx (putF "_grades" (.int L.grades) (putF "_items" w1 []))) own.s own7.g
  have nn8 := (nn7.trans n8).mut (o := .ins (cLog K) dx (putF "_judges" w3 (putF "_grades" (.int L.grades) (putF "_items" w1 [])))) own.s own8.g
  have nn := (nn8.trans n9).mut (o := .ins (cLog K) dx (putF "_events" w4 (putF "_judges" w3 (putF "_grades" (.int L.grades) (putF "_items" w1 []))))) own.s own9.g
  have nt := nn.tell own9.s own9.h own9.g
  have nw := Ex.new (o := HO.ins (cLog K) dx (putF "_events" w4 (putF "_judges" w3 (putF "_grades" (.int L.grades) (putF "_items" w1 []))))) own9.g
  exact q _ _ nt ⟨x, dx, w1, w3, w4, rfl, upd_same, (rL rS).ex (((n7.g.trans n8.g).trans n9.g).trans nw) r1, (rL rJ).ex (n9.g.trans nw) r3, (rL rE).ex nw r4⟩)
/-- Log(..) -/
theorem ev_makeLog {σ : L2.St} {G : Hp} {ta tb tc td : TE} {L : Log} {E : XK} (W : WfL L) (h1 : EvD (rL rS) ta σ G L.items) (h2 : EvD FW.rI tb σ G L.grades) (h3 : EvD (rL rJ) tc σ G L.judges) (h4 : EvD (rL rE) td σ G L.events) :
    EvD (rLog K) (tMake (cLog K) (sp_Log_init K) [] E (tCons ta (tCons tb (tCons tc (tCons td tNil))))) σ G L := fun H e Q q =>
  h1 H e _ fun w1 G1 H1 y1 n1 r1 p1 => h2.mono n1.g H1 n1.s _ fun w2 G2 H2 y2 n2 r2 p2 => h3.mono (n1.g.trans n2.g) H2 n2.s _ fun w3 G3 H3 y3 n3 r3 p3 => h4.mono ((n1.g.trans n2.g).trans n3.g) H3 n3.s _ fun w4 G4 H4 y4 n4 r4 p4 => fun x dx hx hdx hne => by
  subst p1 p2 p3 p4
  cases r2
  have n := (((n1.trans n2).trans n3).trans n4)
  have nm := ((Nxt.refl n4.s).mut (o := .own x) hdx (n4.s.free hdx)).mut (o := .ins (cLog K) dx []) hx (n4.s.free hx)
  exact ⟨G4, H4, G4, L, x, dx, w1, w3, w4, rfl, nm, ⟨hx, n4.s.free hx, upd_same⟩, W, (rL rS).ex ((n2.g.trans n3.g).trans n4.g) r1, (rL rJ).ex n4.g r3, r4, fun G5 H5 n5 r5 => ⟨rfl, q _ G5 H5 L (n.trans n5) r5 rfl⟩⟩
end
end FW
/-! with_events .. backwards, law_made. -/
namespace FW
open PySem PySem.Spec PyProof.Rows L2 Hd
theorem lookup_log {v1 v2 v3 v4 : V} {m : Str} (h1 : m ≠ "_items") (h2 : m ≠ "_grades") (h3 : m ≠ "_judges") (h4 : m ≠ "_events") : (logFs v1 v2 v3 v4).lookup m = none := by
  have b : ∀ {x : Str}, m ≠ x → (m == x) = false := fun h => beq_eq_false_iff_ne.mpr h
  simp only [logFs, List.lookup, b h1, b h2, b h3, b h4]
theorem enum_filter {α : Type} {xs : List α} {p : Nat → Bool} : ((enum xs).filter fun z => p z.1).map (·.2) = (xs.zipIdx.filter fun z => p z.2).map (·.1) := by
  unfold enum
  rw [List.filter_map, List.map_map]
  rfl
theorem look_hit {κ α : Type} [DecidableEq κ] {k : κ} {x : α} {r : List (κ × α)} : look ((k, x) :: r) k = some x := by rw [look_cons, if_pos rfl]
theorem look_skip {κ α : Type} [DecidableEq κ] {j k : κ} {x : α} {r : List (κ × α)} (h : ¬ j = k) : look ((j, x) :: r) k = look r k := by rw [look_cons, if_neg h]
theorem look_turned (d : RB.Drift) : look [((Str.ofString "rises"), RB.Drift.falls), ((Str.ofString "falls"), RB.Drift.rises), ((Str.ofString "stays"), RB.Drift.stays)] (dStr d) = some (RB.flip d) := by
  have a : ¬ (Str.ofString "rises" = Str.ofString "falls") := by decide
  have b : ¬ (Str.ofString "rises" = Str.ofString "stays") := by decide
  have c : ¬ (Str.ofString "falls" = Str.ofString "stays") := by decide
  cases d with
  | rises => exact look_hit
  | falls => exact (look_skip a).trans look_hit
  | stays => exact (look_skip b).trans ((look_skip c).trans look_hit)
/-- {"rises": "falls", "falls": "rises", "stays": "stays"} -/
theorem q_turned {σ : L2.St} {G H : Hp} {D : Ends} {u : TS} {i : Nat} (e : Ex G H) (k : ∀ v G2 H2, Nxt G H G2 H2 → (rD kS rDf).is G2 v [((Str.ofString "rises"), RB.Drift.falls), ((Str.ofString "falls"), RB.Drift.rises), ((Str.ofString "stays"), RB.Drift.stays)] → u D (σ.set i (some v)) H2) :
    tSeq (tAsg (tDisp [(tC (V.str "rises"), tC (V.str "falls")), (tC (V.str "falls"), tC (V.str "rises")), (tC (V.str "stays"), tC (V.str "stays"))]) (gName i)) u D σ H := fun p hp => by
  have f1 : kS "falls" ∉ ([(kS "rises", V.str "falls")] : List (Key × V)).map (·.1) := by
    rw [List.map_cons, List.map_nil, List.mem_singleton]
    exact fun h => absurd (inj_S _ _ h) (by decide)
  have f2 : kS "stays" ∉ ([(kS "rises", V.str "falls"), (kS "falls", V.str "rises")] : List (Key × V)).map (·.1) := by
    rw [List.map_cons, List.map_cons, List.map_nil, List.mem_cons, List.mem_singleton]
    rintro (h | h)
    · exact absurd (inj_S _ _ h) (by decide)
    · exact absurd (inj_S _ _ h) (by decide)
  have em : mergeK [] [(kS "rises", V.str "falls"), (kS "falls", V.str "rises"), (kS "stays", V.str "stays")] = [(kS "rises", V.str "falls"), (kS "falls", V.str "rises"), (kS "stays", V.str "stays")] := by
    show putK (putK (putK [] (kS "rises") (V.str "falls")) (kS "falls") (V.str "rises")) (kS "stays") (V.str "stays") = _
    rw [putK_fresh (kvs := []) (by simp), List.nil_append, putK_fresh f1]
    show putK [(kS "rises", V.str "falls"), (kS "falls", V.str "rises")] _ _ = _
    rw [putK_fresh f2]; rfl
  refine ⟨upd_same, [(kS "rises", V.str "falls"), (kS "falls", V.str "rises"), (kS "stays", V.str "stays")], rfl, by show 3 ≤ 15; decide, ?_⟩
  rw [em]
  have ho : Own H G (upd H p (.dK [])) p (.dK []) := ⟨hp, e.free hp, upd_same⟩
  have n0 := (Nxt.refl e).mut (o := .dK []) hp (e.free hp)
  have n1 := n0.mut (o := .dK [(kS "rises", V.str "falls"), (kS "falls", V.str "rises"), (kS "stays", V.str "stays")]) hp (e.free hp)
  have n2 := n1.tell hp upd_same (e.free hp)
  exact k _ _ _ n2 ⟨p, _, rfl, upd_same, .cons ⟨rfl, rfl⟩ (.cons ⟨rfl, rfl⟩ (.cons ⟨rfl, rfl⟩ .nil))⟩
section
variable {P : Program} {w : World} {K : PySem.W.Frag} {mg : Str → Option Value} {base : Heap}

abbrev N_Log_with_events : List Str := ["self", "events"]
theorem sc_Log_with_events : FnScope N_Log_with_events ["self", "events"] (defScope s_Log_with_events) := ⟨rfl, rfl, rfl, by decide +kernel, rfl, by decide +kernel, by decide +kernel⟩
theorem mk_Log_with_events (T : Tx K mg) {sp : Sp} (len : ∀ vs H Q E, sp vs H Q E → vs.length = 2)
    (hb : ∀ (cdv : Value) (A : Around) (outer : List Env) (s : Shared) (H : Hp) (vs : List V) (Q : VK) (E : XK), Room 4 (A.deeper (envOfC "Log.with_events" (defScope s_Log_with_events) s.heap.objs.size (He.ma K (He.ga K "Log") "with_events") cdv)) → sp vs H Q E →
      ∃ t, PSs (cxOf CX0 P w K mg base N_Log_with_events "Log.with_events" (defScope s_Log_with_events) (He.ma K (He.ga K "Log") "with_events") cdv A outer s H E).nox (defBody s_Log_with_events) t ∧ t { nx := fun _ H' => Q .non H', rt := Q } (start N_Log_with_events vs) H) : Met P w K mg base 5 (He.ga K "Log") "with_events" sp := by
  obtain ⟨fd, F⟩ := T.fn 48 rfl
  have b : Binds K fd ["self", "events"] [] := F.binds fun _ _ _ _ _ _ us hl => match us, hl with | [_, _], _ => rfl
  exact ⟨_, fd, _, T.cls 37 rfl, T.meth 64 rfl, F.ok sc_Log_with_events len hb, b⟩
def sp_Log_with_events (K : PySem.W.Frag) : Sp := mkSp (aWe K) (rLog K) (fun i y => y = { i.1 with events := i.2 })
theorem ln_Log_with_events {K : PySem.W.Frag} : ∀ vs H Q E, sp_Log_with_events K vs H Q E → vs.length = 2 := by
  rintro vs H Q E ⟨G, i, e, h, _⟩
  have h : (aWe K) i G vs := h
  obtain ⟨_, v, w, rfl, _⟩ := h; rfl
theorem ok_Log_with_events (T : Tx K mg) : Met P w K mg base 5 (He.ga K "Log") "with_events" (sp_Log_with_events K) := mk_Log_with_events T ln_Log_with_events (fun cdv A outer s H vs Q E hr h => by
  have hu := hu_of hr
  have nd := sc_Log_with_events.nd
  obtain ⟨G, i, e, ha, q⟩ := h
  refine ⟨_, pss_one (ps_ret (pe_mk (ok_Log_init T) hr (pa_cons (k_fld (K := K) rfl (pv 0) rfl) (pa_cons (k_fld (K := K) rfl (pv 0) rfl) (pa_cons (k_fld (K := K) rfl (pv 0) rfl) (pa_cons (pv 1) pa_nil)))))), ?_⟩
  obtain ⟨L, es⟩ := i
  dsimp only [aWe] at ha
  obtain ⟨⟨W, W'⟩, v, w1, rfl, hv, hw⟩ := ha
  exact s_ret (ev_makeLog (L := { L with events := es }) W' (tx_items (L := L) T (ev_var rfl hv)) (tx_grades (L := L) T (ev_var rfl hv)) (tx_judges (L := L) T (ev_var rfl hv)) (ev_var rfl hw)) e fun v5 G5 H5 n5 r5 => q v5 G5 H5 _ n5 r5 rfl)
abbrev N_Log_check_event : List Str := ["self", "event"]
theorem sc_Log_check_event : FnScope N_Log_check_event ["self", "event"] (defScope s_Log_check_event) := ⟨rfl, rfl, rfl, by decide +kernel, rfl, by decide +kernel, by decide +kernel⟩
theorem mk_Log_check_event (T : Tx K mg) {sp : Sp} (len : ∀ vs H Q E, sp vs H Q E → vs.length = 2)
    (hb : ∀ (cdv : Value) (A : Around) (outer : List Env) (s : Shared) (H : Hp) (vs : List V) (Q : VK) (E : XK), Room 1 (A.deeper (envOfC "Log.check_event" (defScope s_Log_check_event) s.heap.objs.size (He.ma K (He.ga K "Log") "check_event") cdv)) → sp vs H Q E →
      ∃ t, PSs (cxOf CX0 P w K mg base N_Log_check_event "Log.check_event" (defScope s_Log_check_event) (He.ma K (He.ga K "Log") "check_event") cdv A outer s H E).nox (defBody s_Log_check_event) t ∧ t { nx := fun _ H' => Q .non H', rt := Q } (start N_Log_check_event vs) H) : Met P w K mg base 2 (He.ga K "Log") "check_event" sp := by
  obtain ⟨fd, F⟩ := T.fn 49 rfl
  have b : Binds K fd ["self", "event"] [] := F.binds fun _ _ _ _ _ _ us hl => match us, hl with | [_, _], _ => rfl
  exact ⟨_, fd, _, T.cls 37 rfl, T.meth 65 rfl, F.ok sc_Log_check_event len hb, b⟩
def sp_Log_check_event (K : PySem.W.Frag) : Sp := mkSp (aCe K) (rU) (fun _ _ => True)
theorem ln_Log_check_event {K : PySem.W.Frag} : ∀ vs H Q E, sp_Log_check_event K vs H Q E → vs.length = 2 := by
  rintro vs H Q E ⟨G, i, e, h, _⟩
  have h : (aCe K) i G vs := h
  obtain ⟨_, v, w, rfl, _⟩ := h; rfl
theorem ok_Log_check_event (T : Tx K mg) : Met P w K mg base 2 (He.ga K "Log") "check_event" (sp_Log_check_event K) := mk_Log_check_event T ln_Log_check_event (fun cdv A outer s H vs Q E hr h => by
  have hu := hu_of hr
  have nd := sc_Log_check_event.nd
  obtain ⟨G, i, e, ha, q⟩ := h
  refine ⟨_, pss_cons (ps_expr (pe_m (ok_Log_drift_of T) hr (pv 0) (pa_cons (pe_ix (k_ixT (K := K) rfl) (pv 1) (pe_int) (fun _ _ => rfl)) pa_nil)))
      (pss_cons (ps_if (PW.pt (pw_and (pt_cmpR op_eq (pe_ix (k_ixT (K := K) rfl) (pv 1) (pe_int) (fun _ _ => rfl)) (pe_gs (T.str 91 rfl)) (nomark _)) (pw_and1 (pt_cmpR (k_notIn (K := K) rfl) (pe_ix (k_ixT (K := K) rfl) (pv 1) (pe_int) (fun _ _ => rfl)) (k_fld (K := K) rfl (pv 0) rfl) rfl)))) (pss_one (ps_never)) (pss_nil))
      (pss_cons (ps_if (PW.pt (pw_and (pt_cmpR op_eq (pe_ix (k_ixT (K := K) rfl) (pv 1) (pe_int) (fun _ _ => rfl)) (pe_gs (T.str 91 rfl)) (nomark _)) (pw_and1 (pt_not (pt_chain op_le op_le (pe_int) (pe_ix (k_ixT (K := K) rfl) (pv 1) (pe_int) (fun _ _ => rfl)) (k_fld (K := K) rfl (pv 0) rfl)))))) (pss_one (ps_never)) (pss_nil))
      (pss_one (ps_if (pt_cmpR op_eq (pe_callB (k_len (K := K) rfl) (by rfl) (T.free 74 rfl) (by decide +kernel) (pa_cons (k_fld (K := K) rfl (pv 0) rfl) pa_nil)) (pe_gi (T.int 95 rfl)) (nomark _)) (pss_one (ps_never)) (pss_nil))))), ?_⟩
  obtain ⟨L, x⟩ := i
  dsimp only [aCe] at ha
  obtain ⟨⟨W, hok⟩, v, w1, rfl, hv, hw⟩ := ha
  dsimp only at q
  have hj : judgeOf x ∈ L.judges.map (·.1) := by
    cases x with
    | ans j i g => exact hok.1
    | res j => exact hok
  refine q_dropP (ev_lmJ W hj (ev_var rfl hv) (ev_judge (ev_var rfl hw))) e fun _ G1 H1 _ n1 _ _ => ?_
  have hv1 := (rLog K).ex n1.g hv
  have hw1 := rE.ex n1.g hw
  have fin : ∀ G3 H3, Nxt G H G3 H3 → (tIfS (tTest (tOp rEq (tCB (fun xs H Q => ∃ x n, xs = [x] ∧ LenV K x H n ∧ Q (V.int (n : Nat)) H) (tCons (tFld K (tVar 0) "_events") tNil)) (tC (V.int 120)))) tNever tNext) { nx := fun _ H' => Q .non H', rt := Q } (L2.start N_Log_check_event [v, w1]) H3 := fun G3 H3 n3 => by
    have hel := W.elen
    refine s_if (b := false) (et_test (ev_val (ev_eqI (ev_N (ev_len (tx_events T (ev_var rfl ((rLog K).ex n3.g hv))))) ev_int) (decide_eq_false (by omega)))) n3.s (fun hb => by cases hb) fun _ G4 H4 n4 => ?_
    exact q .non G4 H4 () (n3.trans n4) rfl trivial
  cases x with
  | res j =>
    refine q_if1 (b := false) (et_val (et_and (a := false) (b := true) (et_test (ev_val (ev_eqS (ev_kind (ev_var rfl hw1)) ev_str) (decide_eq_false (show ¬ (("reset" : Str) = "answer") by decide)))) fun hb => by cases hb) rfl) n1.s (fun hb => by cases hb) fun _ G2 H2 n2 => ?_
    refine q_if1 (b := false) (et_val (et_and (a := false) (b := true) (et_test (ev_val (ev_eqS (ev_kind (ev_var rfl (rE.ex n2.g hw1))) ev_str) (decide_eq_false (show ¬ (("reset" : Str) = "answer") by decide)))) fun hb => by cases hb) rfl) n2.s (fun hb => by cases hb) fun _ G3 H3 n3 => ?_
    exact fin G3 H3 ((n1.trans n2).trans n3)
  | ans j it gr =>
    obtain ⟨_, h2, h3, h4⟩ := hok
    refine q_if1 (b := false) (et_val (et_and (a := true) (b := false) (et_test (ev_val (ev_eqS (ev_kind (ev_var rfl hw1)) ev_str) (decide_eq_true rfl))) fun _ => et_test (ev_val (ev_notInS (ev_item (ev_var rfl hw1)) (tx_items T (ev_var rfl hv1))) (by rw [decide_eq_true h2]; rfl))) rfl) n1.s (fun hb => by cases hb) fun _ G2 H2 n2 => ?_
    refine q_if1 (b := false) (et_val (et_and (a := true) (b := false) (et_test (ev_val (ev_eqS (ev_kind (ev_var rfl (rE.ex n2.g hw1))) ev_str) (decide_eq_true rfl))) fun _ => et_not (a := true) (et_test (ev_val (ev_chainI (r := fun i j => decide (i ≤ j)) (r' := fun i j => decide (i ≤ j)) ev_int (ev_grade (ev_var rfl (rE.ex n2.g hw1))) (tx_grades T (ev_var rfl ((rLog K).ex n2.g hv1)))) ?_))) rfl) n2.s (fun hb => by cases hb) fun _ G3 H3 n3 => ?_
    · show (decide ((0 : Int) ≤ gr) && decide (gr ≤ L.grades)) = true
      rw [decide_eq_true h3, decide_eq_true h4]; rfl
    exact fin G3 H3 ((n1.trans n2).trans n3))
abbrev N_Log_with_event_at : List Str := ["self", "place", "event"]
theorem sc_Log_with_event_at : FnScope N_Log_with_event_at ["self", "place", "event"] (defScope s_Log_with_event_at) := ⟨rfl, rfl, rfl, by decide +kernel, rfl, by decide +kernel, by decide +kernel⟩
theorem mk_Log_with_event_at (T : Tx K mg) {sp : Sp} (len : ∀ vs H Q E, sp vs H Q E → vs.length = 3)
    (hb : ∀ (cdv : Value) (A : Around) (outer : List Env) (s : Shared) (H : Hp) (vs : List V) (Q : VK) (E : XK), Room 5 (A.deeper (envOfC "Log.with_event_at" (defScope s_Log_with_event_at) s.heap.objs.size (He.ma K (He.ga K "Log") "with_event_at") cdv)) → sp vs H Q E →
      ∃ t, PSs (cxOf CX0 P w K mg base N_Log_with_event_at "Log.with_event_at" (defScope s_Log_with_event_at) (He.ma K (He.ga K "Log") "with_event_at") cdv A outer s H E).nox (defBody s_Log_with_event_at) t ∧ t { nx := fun _ H' => Q .non H', rt := Q } (start N_Log_with_event_at vs) H) : Met P w K mg base 6 (He.ga K "Log") "with_event_at" sp := by
  obtain ⟨fd, F⟩ := T.fn 50 rfl
  have b : Binds K fd ["self", "place", "event"] [] := F.binds fun _ _ _ _ _ _ us hl => match us, hl with | [_, _, _], _ => rfl
  exact ⟨_, fd, _, T.cls 37 rfl, T.meth 66 rfl, F.ok sc_Log_with_event_at len hb, b⟩
def sp_Log_with_event_at (K : PySem.W.Frag) : Sp := mkSp (aWa K) (rLog K) (fun i y => y = putE i.1 i.2.1 i.2.2)
theorem ln_Log_with_event_at {K : PySem.W.Frag} : ∀ vs H Q E, sp_Log_with_event_at K vs H Q E → vs.length = 3 := by
  rintro vs H Q E ⟨G, i, e, h, _⟩
  have h : (aWa K) i G vs := h
  obtain ⟨_, v, w, rfl, _⟩ := h; rfl
theorem ok_Log_with_event_at (T : Tx K mg) : Met P w K mg base 6 (He.ga K "Log") "with_event_at" (sp_Log_with_event_at K) := mk_Log_with_event_at T ln_Log_with_event_at (fun cdv A outer s H vs Q E hr h => by
  have hu := hu_of hr
  have nd := sc_Log_with_event_at.nd
  obtain ⟨G, i, e, ha, q⟩ := h
  refine ⟨_, pss_cons (ps_if (pt_not (pt_chain op_le op_le (pe_int) (pv 1) (pe_callB (k_len (K := K) rfl) (by rfl) (T.free 74 rfl) (by decide +kernel) (pa_cons (k_fld (K := K) rfl (pv 0) rfl) pa_nil)))) (pss_one (ps_never)) (pss_nil))
      (pss_cons (ps_expr (pe_m (ok_Log_check_event T) hr (pv 0) (pa_cons (pv 2) pa_nil)))
      (pss_one (ps_ret (pe_m (ok_Log_with_events T) hr (pv 0) (pa_cons (pe_op op_cat (pe_op op_cat (pe_slice (k_slL (K := K) rfl) (k_fld (K := K) rfl (pv 0) rfl) po_none (po_some (pv 1))) (pe_lst (pa_cons (pv 2) pa_nil))) (pe_slice (k_slL (K := K) rfl) (k_fld (K := K) rfl (pv 0) rfl) (po_some (pv 1)) po_none)) pa_nil))))), ?_⟩
  obtain ⟨L, m, x⟩ := i
  dsimp only [aWa] at ha
  obtain ⟨⟨W, hm, hok, hl⟩, v, w1, rfl, hv, hw⟩ := ha
  dsimp only at q
  refine q_if1 (b := false) (et_not (a := true) (et_test (ev_val (ev_chainI (r := fun i j => decide (i ≤ j)) (r' := fun i j => decide (i ≤ j)) ev_int (ev_N (ev_var rfl rfl)) (ev_N (ev_len (tx_events T (ev_var rfl hv))))) ?_))) e (fun hb => by cases hb) fun _ G1 H1 n1 => ?_
  · show (decide ((0 : Int) ≤ (m : Int)) && decide ((m : Int) ≤ (L.events.length : Int))) = true
    rw [decide_eq_true (by omega), decide_eq_true (by omega)]; rfl
  refine q_dropP (R := rU) (PA := fun _ => True) (ev_meth1 (R := rLog K) (S := rE) (log_ins) (ev_var rfl ((rLog K).ex n1.g hv)) (ev_var rfl (rE.ex n1.g hw)) fun G3 v1 x1 w1 y1 e3 r1 p1 r2 p2 => ?_) n1.s fun _ G2 H2 _ n2 _ _ => ?_
  · subst p1 p2
    exact mkSp_use (args := aCe K) (x1, y1) ⟨⟨W, hok⟩, v1, w1, rfl, r1, r2⟩
  have n12 := n1.trans n2
  have hv2 := (rLog K).ex n12.g hv
  have W2 := W.put (m := m) hok hl
  refine s_retP (R := rLog K) (PA := fun y => y = putE L m x) (ev_meth1 (R := rLog K) (S := rL rE) (PB := fun es => es = L.events.take m ++ [x] ++ L.events.drop m) (log_ins) (ev_var rfl hv2) (ev_cat (ev_cat (ev_takeL (tx_events T (ev_var rfl hv2)) (ev_N (ev_var rfl rfl))) ((ev_lst1 (ev_var rfl (rE.ex n12.g hw))).imp fun z hz => ?_) ?_) (ev_dropL (tx_events T (ev_var rfl hv2)) (ev_N (ev_var rfl rfl))) ?_) fun G3 v1 x1 w1 y1 e3 r1 p1 r2 p2 => ?_) n2.s fun v5 G5 H5 y n5 r5 h5 => q v5 G5 H5 y (n12.trans n5) r5 h5
  · obtain ⟨a, rfl, rfl⟩ := hz
    rfl
  · simp only [List.length_take, List.length_singleton]; omega
  · simp only [List.length_append, List.length_take, List.length_drop, List.length_singleton]; omega
  · subst p1 p2
    exact mkSp_use (args := aWe K) (x1, x1.events.take m ++ [x] ++ x1.events.drop m) ⟨⟨W, W2⟩, v1, w1, rfl, r1, r2⟩)
abbrev N_Log_only : List Str := ["self", "places", "place", "kept", "at", "event"]
theorem sc_Log_only : FnScope N_Log_only ["self", "places"] (defScope s_Log_only) := ⟨rfl, rfl, rfl, by decide +kernel, rfl, by decide +kernel, by decide +kernel⟩
theorem mk_Log_only (T : Tx K mg) {sp : Sp} (len : ∀ vs H Q E, sp vs H Q E → vs.length = 2)
    (hb : ∀ (cdv : Value) (A : Around) (outer : List Env) (s : Shared) (H : Hp) (vs : List V) (Q : VK) (E : XK), Room 5 (A.deeper (envOfC "Log.only" (defScope s_Log_only) s.heap.objs.size (He.ma K (He.ga K "Log") "only") cdv)) → sp vs H Q E →
      ∃ t, PSs (cxOf CX0 P w K mg base N_Log_only "Log.only" (defScope s_Log_only) (He.ma K (He.ga K "Log") "only") cdv A outer s H E).nox (defBody s_Log_only) t ∧ t { nx := fun _ H' => Q .non H', rt := Q } (start N_Log_only vs) H) : Met P w K mg base 6 (He.ga K "Log") "only" sp := by
  obtain ⟨fd, F⟩ := T.fn 51 rfl
  have b : Binds K fd ["self", "places"] [] := F.binds fun _ _ _ _ _ _ us hl => match us, hl with | [_, _], _ => rfl
  exact ⟨_, fd, _, T.cls 37 rfl, T.meth 67 rfl, F.ok sc_Log_only len hb, b⟩
def sp_Log_only (K : PySem.W.Frag) : Sp := mkSp (aOnl K) (rLog K) (fun i y => y = onlyL i.1 i.2)
theorem ln_Log_only {K : PySem.W.Frag} : ∀ vs H Q E, sp_Log_only K vs H Q E → vs.length = 2 := by
  rintro vs H Q E ⟨G, i, e, h, _⟩
  have h : (aOnl K) i G vs := h
  obtain ⟨_, v, w, rfl, _⟩ := h; rfl
theorem ok_Log_only (T : Tx K mg) : Met P w K mg base 6 (He.ga K "Log") "only" (sp_Log_only K) := mk_Log_only T ln_Log_only (fun cdv A outer s H vs Q E hr h => by
  have hu := hu_of hr
  have nd := sc_Log_only.nd
  obtain ⟨G, i, e, ha, q⟩ := h
  refine ⟨_, pss_cons (ps_for PassesOwn.never rfl (k_iList (K := K) rfl (pv 1)) (pg_name (i := 2) nd rfl (Or.inl rfl)) (pss_one (ps_expr (pe_m (ok_Log_answer_at T) hr (pv 0) (pa_cons (pv 2) pa_nil)))))
      (pss_cons (ps_setLc (i := 3) (own := [("at", 4), ("event", 5)]) (g := (gTup K 2 (gCons (gName 4) (gCons (gName 5) gNil)))) rfl nd rfl rfl (sw_true rfl rfl rfl (by decide +kernel)) (pi_enum (by rfl) (T.free 84 rfl) (pa_cons (k_fld (K := K) rfl (pv 0) rfl) pa_nil)) (blkOk_by (by kernel_rfl)) (fun _ _ _ _ _ => pg_tup rfl (pgs_cons (pg_name (i := 4) nd rfl (by first | exact Or.inl rfl | exact Or.inr rfl)) (pgs_cons (pg_name (i := 5) nd rfl (by first | exact Or.inl rfl | exact Or.inr rfl)) pgs_nil))) (fun _ _ _ _ _ => (pts_one (PW.pt (pw_or (pt_cmpR (k_in (K := K) rfl) (pv 4) (pv 1) rfl) (pw_or1 (pt_not (pt_val (pe_m (ok_Log_is_answer T) hr (pv 0) (pa_cons (pv 4) pa_nil))))))))) (fun _ _ _ _ _ => pv 5))
      (pss_one (ps_ret (pe_m (ok_Log_with_events T) hr (pv 0) (pa_cons (pv 3) pa_nil))))), ?_⟩
  obtain ⟨L, pl⟩ := i
  dsimp only [aOnl] at ha
  obtain ⟨⟨W, hpl⟩, v, w1, rfl, hv, hw⟩ := ha
  dsimp only at q
  have hel := W.elen
  refine q_for (ei_list (R := rN) (P := fun ys => ys = pl) (ev_var rfl hw)) e (fun ys G3 H3 hy n3 => ?_)
  subst hy
  refine ⟨fun k σ' G' H' => Nxt G H G' H' ∧ (∃ a, σ' = [some v, some w1, a, none, none, none]), ⟨n3, ⟨_, rfl⟩⟩, ?_, ?_⟩
  · rintro k x σ' G' H' hx e1 e2 ⟨nn, ⟨a, rfl⟩⟩ w2 G4 H4 n4 rfl
    refine s_dropP (R := rE) (PA := fun _ => True) ((ev_lmP W (hpl x (List.mem_of_getElem? hx)) (ev_var rfl ((rLog K).ex (nn.g.trans n4.g) hv)) (ev_var rfl rfl)).imp fun _ _ => trivial) n4.s fun _ G5 H5 _ n5 _ _ => ?_
    exact ⟨G5, (e1.trans n4.g).trans n5.g, n5.s, (nn.trans n4).trans n5, ⟨_, rfl⟩⟩
  · rintro σ' G' H' e1 e2 ⟨nn, ⟨a, rfl⟩⟩
    have hv2 := (rLog K).ex nn.g hv
    have hw2 := (rL rN).ex nn.g hw
    refine q_asg (R := rL rE) (x := (onlyL L ys).events) (ev_val (ev_lcD (R := rT2 rN rE) (f := fun z => z.2) (p := fun z => decide (z.1 ∈ ys) || !isAns L z.1) (ei_enum (tx_events T (ev_var rfl hv2))) (by rw [enum_len]; omega) fun z hz G2 u e2 r => ?_) (enum_filter (p := fun k => decide (k ∈ ys) || !isAns L k))) e2 fun v6 G6 H6 n6 r6 => ?_
    · obtain ⟨t, v1, v2, rfl, ht, h1, h2⟩ := r
      refine ⟨_, tg_tup2 ht tg_name tg_name, rfl, et_or (et_test (ev_inN (ev_var rfl h1) (ev_var rfl ((rL rN).ex e2 hw2)))) (fun _ => et_not (et_B (ev_lmN W (ev_var rfl ((rLog K).ex e2 hv2)) (ev_var rfl h1)))), fun _ => ev_var rfl h2⟩
    · refine s_retP (R := rLog K) (PA := fun y => y = onlyL L ys) (ev_meth1 (R := rLog K) (S := rL rE) (log_ins) (ev_var rfl ((rLog K).ex n6.g hv2)) (ev_var rfl r6) fun G3 v1 x1 w1 y1 e3 r1 p1 r2 p2 => ?_) n6.s fun v5 G5 H5 y n5 r5 h5 => q v5 G5 H5 y ((nn.trans n6).trans n5) r5 h5
      subst p1 p2
      exact mkSp_use (args := aWe K) (x1, (onlyL x1 ys).events) ⟨⟨W, W.only ys⟩, v1, w1, rfl, r1, r2⟩)
abbrev N_Log_with_judges : List Str := ["self", "judges"]
theorem sc_Log_with_judges : FnScope N_Log_with_judges ["self", "judges"] (defScope s_Log_with_judges) := ⟨rfl, rfl, rfl, by decide +kernel, rfl, by decide +kernel, by decide +kernel⟩
theorem mk_Log_with_judges (T : Tx K mg) {sp : Sp} (len : ∀ vs H Q E, sp vs H Q E → vs.length = 2)
    (hb : ∀ (cdv : Value) (A : Around) (outer : List Env) (s : Shared) (H : Hp) (vs : List V) (Q : VK) (E : XK), Room 4 (A.deeper (envOfC "Log.with_judges" (defScope s_Log_with_judges) s.heap.objs.size (He.ma K (He.ga K "Log") "with_judges") cdv)) → sp vs H Q E →
      ∃ t, PSs (cxOf CX0 P w K mg base N_Log_with_judges "Log.with_judges" (defScope s_Log_with_judges) (He.ma K (He.ga K "Log") "with_judges") cdv A outer s H E).nox (defBody s_Log_with_judges) t ∧ t { nx := fun _ H' => Q .non H', rt := Q } (start N_Log_with_judges vs) H) : Met P w K mg base 5 (He.ga K "Log") "with_judges" sp := by
  obtain ⟨fd, F⟩ := T.fn 52 rfl
  have b : Binds K fd ["self", "judges"] [] := F.binds fun _ _ _ _ _ _ us hl => match us, hl with | [_, _], _ => rfl
  exact ⟨_, fd, _, T.cls 37 rfl, T.meth 68 rfl, F.ok sc_Log_with_judges len hb, b⟩
def sp_Log_with_judges (K : PySem.W.Frag) : Sp := mkSp (aWj K) (rLog K) (fun i y => y = { i.1 with judges := i.2 })
theorem ln_Log_with_judges {K : PySem.W.Frag} : ∀ vs H Q E, sp_Log_with_judges K vs H Q E → vs.length = 2 := by
  rintro vs H Q E ⟨G, i, e, h, _⟩
  have h : (aWj K) i G vs := h
  obtain ⟨_, v, w, rfl, _⟩ := h; rfl
theorem ok_Log_with_judges (T : Tx K mg) : Met P w K mg base 5 (He.ga K "Log") "with_judges" (sp_Log_with_judges K) := mk_Log_with_judges T ln_Log_with_judges (fun cdv A outer s H vs Q E hr h => by
  have hu := hu_of hr
  have nd := sc_Log_with_judges.nd
  obtain ⟨G, i, e, ha, q⟩ := h
  refine ⟨_, pss_one (ps_ret (pe_mk (ok_Log_init T) hr (pa_cons (k_fld (K := K) rfl (pv 0) rfl) (pa_cons (k_fld (K := K) rfl (pv 0) rfl) (pa_cons (pv 1) (pa_cons (k_fld (K := K) rfl (pv 0) rfl) pa_nil)))))), ?_⟩
  obtain ⟨L, js⟩ := i
  dsimp only [aWj] at ha
  obtain ⟨⟨W, W'⟩, v, w1, rfl, hv, hw⟩ := ha
  exact s_ret (ev_makeLog (L := { L with judges := js }) W' (tx_items (L := L) T (ev_var rfl hv)) (tx_grades (L := L) T (ev_var rfl hv)) (ev_var rfl hw) (tx_events (L := L) T (ev_var rfl hv))) e fun v5 G5 H5 n5 r5 => q v5 G5 H5 _ n5 r5 rfl)
abbrev N_Log_with_drift : List Str := ["self", "judge", "drift", "name", "other"]
theorem sc_Log_with_drift : FnScope N_Log_with_drift ["self", "judge", "drift"] (defScope s_Log_with_drift) := ⟨rfl, rfl, rfl, by decide +kernel, rfl, by decide +kernel, by decide +kernel⟩
theorem mk_Log_with_drift (T : Tx K mg) {sp : Sp} (len : ∀ vs H Q E, sp vs H Q E → vs.length = 3)
    (hb : ∀ (cdv : Value) (A : Around) (outer : List Env) (s : Shared) (H : Hp) (vs : List V) (Q : VK) (E : XK), Room 5 (A.deeper (envOfC "Log.with_drift" (defScope s_Log_with_drift) s.heap.objs.size (He.ma K (He.ga K "Log") "with_drift") cdv)) → sp vs H Q E →
      ∃ t, PSs (cxOf CX0 P w K mg base N_Log_with_drift "Log.with_drift" (defScope s_Log_with_drift) (He.ma K (He.ga K "Log") "with_drift") cdv A outer s H E).nox (defBody s_Log_with_drift) t ∧ t { nx := fun _ H' => Q .non H', rt := Q } (start N_Log_with_drift vs) H) : Met P w K mg base 6 (He.ga K "Log") "with_drift" sp := by
  obtain ⟨fd, F⟩ := T.fn 53 rfl
  have b : Binds K fd ["self", "judge", "drift"] [] := F.binds fun _ _ _ _ _ _ us hl => match us, hl with | [_, _, _], _ => rfl
  exact ⟨_, fd, _, T.cls 37 rfl, T.meth 69 rfl, F.ok sc_Log_with_drift len hb, b⟩
def sp_Log_with_drift (K : PySem.W.Frag) : Sp := mkSp (aWd K) (rLog K) (fun i y => y = driftL i.1 i.2.1 i.2.2)
theorem ln_Log_with_drift {K : PySem.W.Frag} : ∀ vs H Q E, sp_Log_with_drift K vs H Q E → vs.length = 3 := by
  rintro vs H Q E ⟨G, i, e, h, _⟩
  have h : (aWd K) i G vs := h
  obtain ⟨_, v, rfl, _⟩ := h; rfl
theorem ok_Log_with_drift (T : Tx K mg) : Met P w K mg base 6 (He.ga K "Log") "with_drift" (sp_Log_with_drift K) := mk_Log_with_drift T ln_Log_with_drift (fun cdv A outer s H vs Q E hr h => by
  have hu := hu_of hr
  have nd := sc_Log_with_drift.nd
  obtain ⟨G, i, e, ha, q⟩ := h
  refine ⟨_, pss_cons (ps_expr (pe_m (ok_Log_drift_of T) hr (pv 0) (pa_cons (pv 1) pa_nil)))
      (pss_cons (ps_if (pt_not (pt_val (pe_c (ok_is_drift T) hr (pa_cons (pv 2) pa_nil)))) (pss_one (ps_never)) (pss_nil))
      (pss_one (ps_ret (pe_m (ok_Log_with_judges T) hr (pv 0) (pa_cons (pe_lc (own := [("name", 3), ("other", 4)]) (g := (gTup K 2 (gCons (gName 3) (gCons (gName 4) gNil)))) (tt := tYes) rfl nd (k_iList (K := K) rfl (k_fld (K := K) rfl (pv 0) rfl)) (blkOk_by (by kernel_rfl)) (fun _ _ _ _ _ => pg_tup rfl (pgs_cons (pg_name (i := 3) nd rfl (by first | exact Or.inl rfl | exact Or.inr rfl)) (pgs_cons (pg_name (i := 4) nd rfl (by first | exact Or.inl rfl | exact Or.inr rfl)) pgs_nil))) (fun _ _ _ _ _ => pts_nil) (fun _ _ _ _ _ => pe_tup (pa_cons (pv 3) (pa_cons (pe_ifExp (pt_cmpR op_eq (pv 3) (pv 1) (nomark _)) (pv 2) (pv 4)) pa_nil)))) pa_nil))))), ?_⟩
  obtain ⟨L, j, d⟩ := i
  dsimp only [aWd] at ha
  obtain ⟨⟨W, hj⟩, v, rfl, hv⟩ := ha
  dsimp only at q
  have hj3 := W.jlen
  refine q_dropP (ev_lmJ W hj (ev_var rfl hv) (ev_var rfl rfl)) e fun _ G1 H1 _ n1 _ _ => ?_
  refine q_if1 (b := false) (et_not (a := true) (et_B (ev_call1 (R := rDf) (PA := fun y => y = d) (ev_var rfl rfl) fun G3 v1 x1 e3 r1 p1 => ?_))) n1.s (fun hb => by cases hb) fun _ G2 H2 n2 => ?_
  · exact mkSp_use (args := aDft) x1 (show [v1] = _ by rw [show v1 = .str (dStr x1) from r1])
  have n12 := n1.trans n2
  have hv2 := (rLog K).ex n12.g hv
  refine s_retP (R := rLog K) (PA := fun y => y = driftL L j d) (ev_meth1 (R := rLog K) (S := rL rJ) (PB := fun js => js = (driftL L j d).judges) (log_ins) (ev_var rfl hv2) (ev_lcM (R := rJ) (f := fun z => (z.1, if z.1 = j then d else z.2)) (ei_list (tx_judges T (ev_var rfl hv2))) (by omega) fun z hz G3 u e3 r => ?_) fun G3 v1 x1 w1 y1 e3 r1 p1 r2 p2 => ?_) n2.s fun v5 G5 H5 y n5 r5 h5 => q v5 G5 H5 y (n12.trans n5) r5 h5
  · obtain ⟨t, v1, v2, rfl, ht, h1, h2⟩ := r
    refine ⟨_, tg_tup2 ht tg_name tg_name, rfl, ev_tup2D (R := rS) (S := rDf) (ev_var rfl h1) (ev_if (b := decide (z.1 = j)) (et_test (ev_eqS (ev_var rfl h1) (ev_var rfl rfl))) (fun hb => ?_) (fun hb => ?_))⟩
    · rw [if_pos (of_decide_eq_true hb)]
      exact ev_var rfl rfl
    · rw [if_neg (of_decide_eq_false hb)]
      exact ev_var rfl h2
  · subst p1 p2
    exact mkSp_use (args := aWj K) (x1, (driftL x1 j d).judges) ⟨⟨W, W.driftL j d⟩, v1, w1, rfl, r1, r2⟩)
abbrev N_Log_backwards : List Str := ["self", "turned", "judges", "name", "drift"]
theorem sc_Log_backwards : FnScope N_Log_backwards ["self"] (defScope s_Log_backwards) := ⟨rfl, rfl, rfl, by decide +kernel, rfl, by decide +kernel, by decide +kernel⟩
theorem mk_Log_backwards (T : Tx K mg) {sp : Sp} (len : ∀ vs H Q E, sp vs H Q E → vs.length = 1)
    (hb : ∀ (cdv : Value) (A : Around) (outer : List Env) (s : Shared) (H : Hp) (vs : List V) (Q : VK) (E : XK), Room 4 (A.deeper (envOfC "Log.backwards" (defScope s_Log_backwards) s.heap.objs.size (He.ma K (He.ga K "Log") "backwards") cdv)) → sp vs H Q E →
      ∃ t, PSs (cxOf CX0 P w K mg base N_Log_backwards "Log.backwards" (defScope s_Log_backwards) (He.ma K (He.ga K "Log") "backwards") cdv A outer s H E).nox (defBody s_Log_backwards) t ∧ t { nx := fun _ H' => Q .non H', rt := Q } (start N_Log_backwards vs) H) : Met P w K mg base 5 (He.ga K "Log") "backwards" sp := by
  obtain ⟨fd, F⟩ := T.fn 54 rfl
  have b : Binds K fd ["self"] [] := F.binds fun _ _ _ _ _ _ us hl => match us, hl with | [_], _ => rfl
  exact ⟨_, fd, _, T.cls 37 rfl, T.meth 70 rfl, F.ok sc_Log_backwards len hb, b⟩
def sp_Log_backwards (K : PySem.W.Frag) : Sp := mkSp (aLog K) (rLog K) (fun L y => y = backL L)
theorem ln_Log_backwards {K : PySem.W.Frag} : ∀ vs H Q E, sp_Log_backwards K vs H Q E → vs.length = 1 := by
  rintro vs H Q E ⟨G, i, e, h, _⟩
  have h : (aLog K) i G vs := h
  obtain ⟨_, v, rfl, _⟩ := h; rfl
theorem ok_Log_backwards (T : Tx K mg) : Met P w K mg base 5 (He.ga K "Log") "backwards" (sp_Log_backwards K) := mk_Log_backwards T ln_Log_backwards (fun cdv A outer s H vs Q E hr h => by
  have hu := hu_of hr
  have nd := sc_Log_backwards.nd
  obtain ⟨G, i, e, ha, q⟩ := h
  refine ⟨_, pss_cons (ps_set (i := 1) nd rfl (Or.inr rfl) (pe_disp (pps_cons (pe_gs (T.str 88 rfl)) (pe_gs (T.str 89 rfl)) (pps_cons (pe_gs (T.str 89 rfl)) (pe_gs (T.str 88 rfl)) (pps_cons (pe_gs (T.str 90 rfl)) (pe_gs (T.str 90 rfl)) (pps_nil)))) (by rfl) (by rfl) (fun z => by cases z) (by decide)))
      (pss_cons (ps_setLc (i := 2) (own := [("name", 3), ("drift", 4)]) (g := (gTup K 2 (gCons (gName 3) (gCons (gName 4) gNil)))) (tt := tYes) rfl nd rfl rfl (sw_true rfl rfl rfl (by decide +kernel)) (k_iList (K := K) rfl (k_fld (K := K) rfl (pv 0) rfl)) (blkOk_by (by kernel_rfl)) (fun _ _ _ _ _ => pg_tup rfl (pgs_cons (pg_name (i := 3) nd rfl (by first | exact Or.inl rfl | exact Or.inr rfl)) (pgs_cons (pg_name (i := 4) nd rfl (by first | exact Or.inl rfl | exact Or.inr rfl)) pgs_nil))) (fun _ _ _ _ _ => pts_nil) (fun _ _ _ _ _ => pe_tup (pa_cons (pv 3) (pa_cons (pe_dget hu (pv 1) (pv 4) (fun _ _ => rfl)) pa_nil))))
      (pss_one (ps_ret (pe_mk (ok_Log_init T) hr (pa_cons (k_fld (K := K) rfl (pv 0) rfl) (pa_cons (k_fld (K := K) rfl (pv 0) rfl) (pa_cons (pv 2) (pa_cons (pe_revL (k_fld (K := K) rfl (pv 0) rfl)) pa_nil)))))))), ?_⟩
  obtain ⟨W, v, rfl, hv⟩ := ha
  have hj3 := W.jlen
  refine q_turned e fun vt G1 H1 n1 rt => ?_
  have hv1 := (rLog K).ex n1.g hv
  refine q_asg (R := rL rJ) (x := (backL i).judges) (ev_lcM (R := rJ) (f := fun z => (z.1, RB.flip z.2)) (ei_list (tx_judges T (ev_var rfl hv1))) (by omega) fun z hz G3 u e3 r => ?_) n1.s fun v2 G2 H2 n2 r2 => ?_
  · obtain ⟨t, v1, v2, rfl, ht, h1, h2⟩ := r
    have h2 : v2 = .str (dStr z.2) := h2
    subst h2
    exact ⟨_, tg_tup2 ht tg_name tg_name, rfl, ev_tup2D (R := rS) (S := rDf) (ev_var rfl h1) (ev_dget (RK := rS) inj_S key_S (ev_var rfl (rD_r ((rD kS rDf).ex e3 rt))) (ev_var rfl rfl) (look_turned z.2))⟩
  have hv2 := (rLog K).ex n2.g hv1
  exact s_ret (ev_makeLog (L := backL i) W.back (tx_items (L := i) T (ev_var rfl hv2)) (tx_grades (L := i) T (ev_var rfl hv2)) (ev_var rfl r2) (ev_rev (tx_events (L := i) T (ev_var rfl hv2)))) n2.s fun v5 G5 H5 n5 r5 => q v5 G5 H5 _ ((n1.trans n2).trans n5) r5 rfl)
abbrev N_law_made : List Str := ["_law_parts"]
theorem sc_law_made : FnScope N_law_made ["_law_parts"] (defScope s_law_made) := ⟨rfl, rfl, rfl, by decide +kernel, rfl, by decide +kernel, by decide +kernel⟩
theorem mk_law_made (T : Tx K mg) {sp : Sp} (len : ∀ vs H Q E, sp vs H Q E → vs.length = 1)
    (hb : ∀ (cdv : Value) (A : Around) (outer : List Env) (s : Shared) (H : Hp) (vs : List V) (Q : VK) (E : XK), Room 4 (A.deeper (envOfC "_law_made" (defScope s_law_made) s.heap.objs.size (He.ga K "_law_made") cdv)) → sp vs H Q E →
      ∃ t, PSs (cxOf CX0 P w K mg base N_law_made "_law_made" (defScope s_law_made) (He.ga K "_law_made") cdv A outer s H E).nox (defBody s_law_made) t ∧ t { nx := fun _ H' => Q .non H', rt := Q } (start N_law_made vs) H) : Cal P w K mg base 5 "_law_made" sp := by
  obtain ⟨fd, F⟩ := T.fn 58 rfl
  have b : Binds K fd ["_law_parts"] [] := F.binds fun _ _ _ _ _ _ us hl => match us, hl with | [_], _ => rfl
  exact ⟨_, fd, _, F.ok sc_law_made len hb, T.glo 34 rfl, F.kp, b⟩
def sp_law_made (K : PySem.W.Frag) : Sp := mkSp (aMad) (rLog K) (fun L y => y = L)
theorem ln_law_made {K : PySem.W.Frag} : ∀ vs H Q E, sp_law_made K vs H Q E → vs.length = 1 := by
  rintro vs H Q E ⟨G, i, e, h, _⟩
  have h : (aMad) i G vs := h
  obtain ⟨_, v, rfl, _⟩ := h; rfl
theorem ok_law_made (T : Tx K mg) : Cal P w K mg base 5 "_law_made" (sp_law_made K) := mk_law_made T ln_law_made (fun cdv A outer s H vs Q E hr h => by
  have hu := hu_of hr
  have nd := sc_law_made.nd
  obtain ⟨G, i, e, ha, q⟩ := h
  refine ⟨_, pss_one (ps_ret (pe_mk (ok_Log_init T) hr (pa_cons (pe_callTy (k_list (K := K) rfl) (by rfl) (T.free 82 rfl) (by decide +kernel) (pa_cons (pe_ix (k_ixT (K := K) rfl) (pv 0) (pe_int) (fun _ _ => rfl)) pa_nil)) (pa_cons (pe_ix (k_ixT (K := K) rfl) (pv 0) (pe_int) (fun _ _ => rfl)) (pa_cons (pe_callTy (k_list (K := K) rfl) (by rfl) (T.free 82 rfl) (by decide +kernel) (pa_cons (pe_ix (k_ixT (K := K) rfl) (pv 0) (pe_int) (fun _ _ => rfl)) pa_nil)) (pa_cons (pe_callTy (k_list (K := K) rfl) (by rfl) (T.free 82 rfl) (by decide +kernel) (pa_cons (pe_ix (k_ixT (K := K) rfl) (pv 0) (pe_int) (fun _ _ => rfl)) pa_nil)) pa_nil)))))), ?_⟩
  obtain ⟨W, v, rfl, hv⟩ := ha
  have part : ∀ {β : Type} {S : Rp β} (k : Nat) (x : β), (∀ G2 v, rParts.is G2 v (i.items, i.grades, i.judges, i.events) → ∃ a vs w, v = .ref a ∧ G2 a = some (.tup vs) ∧ vs[k]? = some w ∧ S.is G2 w x) → EvD S (tOp (rIxT K) (tVar 0) (tC (.int (k : Int)))) (L2.start N_law_made [v]) G x := fun k x h => ev_ixT (R := rParts) (PA := fun y => y = (i.items, i.grades, i.judges, i.events)) (ev_var rfl hv) fun G2 v y e2 r p => by
    subst p
    exact h G2 v r
  refine s_ret (ev_makeLog (L := i) W (ev_list (part 0 i.items fun G2 v r => ?_)) (part 1 i.grades fun G2 v r => ?_) (ev_list (part 2 i.judges fun G2 v r => ?_)) (ev_list (part 3 i.events fun G2 v r => ?_))) e fun v5 G5 H5 n5 r5 => q v5 G5 H5 _ n5 r5 rfl
  · obtain ⟨a, v1, v2, v3, v4, rfl, h, h1, h2, h3, h4⟩ := r
    exact ⟨a, _, v1, rfl, h, rfl, h1⟩
  · obtain ⟨a, v1, v2, v3, v4, rfl, h, h1, h2, h3, h4⟩ := r
    exact ⟨a, _, v2, rfl, h, rfl, h2⟩
  · obtain ⟨a, v1, v2, v3, v4, rfl, h, h1, h2, h3, h4⟩ := r
    exact ⟨a, _, v3, rfl, h, rfl, h3⟩
  · obtain ⟨a, v1, v2, v3, v4, rfl, h, h1, h2, h3, h4⟩ := r
    exact ⟨a, _, v4, rfl, h, rfl, h4⟩)
end
end FW
/-! More readings: sorted(dict), locked statements, dicts of lists that grow. -/
namespace FW
open PySem PySem.Spec PyProof.Rows L2 Hd
theorem nd_len {α : Type} [DecidableEq α] : ∀ {xs ys : List α}, xs.Nodup → (∀ x ∈ xs, x ∈ ys) → xs.length ≤ ys.length
  | [], _, _, _ => Nat.zero_le _
  | x :: r, ys, nd, h => by
    rw [List.nodup_cons] at nd
    have hx := h x List.mem_cons_self
    have ih := nd_len (ys := ys.erase x) nd.2 fun y hy => (List.mem_erase_of_ne fun e => nd.1 (by rw [← e]; exact hy)).mpr (h y (List.mem_cons_of_mem _ hy))
    rw [List.length_erase_of_mem hx] at ih
    have := List.length_pos_of_mem hx
    rw [List.length_cons]
    omega
section
variable {κ α β γ : Type} [DecidableEq κ] {R : Rp α} {S : Rp β} {T : Rp γ} {RK : Rp κ} {σ : L2.St} {Hs G H G0 H0 : Hp} {te ta td : TE} {K : PySem.W.Frag} {D : Ends} {u : TS} {d l : Addr}
theorem ints_nats : ∀ ys : List Int, (∀ y ∈ ys, 0 ≤ y) → ys = (ys.map Int.toNat).map fun n : Nat => (n : Int)
  | [], _ => rfl
  | y :: r, h => by
    rw [List.map_cons, List.map_cons, ← ints_nats r fun z hz => h z (List.mem_cons_of_mem _ hz)]
    have := h y List.mem_cons_self
    rw [show ((Int.toNat y : Nat) : Int) = y by omega]
theorem ent_keysN {kvs : List (Key × V)} {xs : List (Nat × α)} (hp : Pd (Ent kN R G) kvs xs) : kvs.map (·.1) = (xs.map fun z => (z.1 : Int)).map Sum.inl := by
  induction hp with
  | nil => rfl
  | cons a _ ih => rw [List.map_cons, List.map_cons, List.map_cons, ih, a.1]; rfl
theorem ev_sortedDN {xs : List (Nat × α)} (h : EvD (rDr kN R) ta σ G xs) (hl : xs.length < 64) : EvP (rL rN) (tCB (fun xs H Q => ∃ (a : Addr) (kvs : List (Key × V)) (ks : List Int), xs = [.ref a] ∧ Rd H a (.dK kvs) ∧ kvs.map (·.1) = ks.map Sum.inl ∧ ks.length < 64 ∧
    ∀ (ys : List Int) (p : Addr), ys.Perm ks → ys.Pairwise (· ≤ ·) → H p = none → Q (.ref p) (upd H p (.lst (ys.map V.int)))) (tCons ta tNil)) σ G (fun ys => ys.Perm (xs.map (·.1))) := ev_cb1 h fun G2 v x e r p H e2 Q q => by
  subst p
  obtain ⟨a, kvs, rfl, ha, hp⟩ := r
  refine ⟨a, kvs, x.map fun z => (z.1 : Int), rfl, e2.rd ha, ent_keysN hp, by rw [List.length_map]; exact hl, fun ys p h1 h2 hn => ?_⟩
  have n := Nxt.new (o := .lst (ys.map V.int)) e2 hn
  have hnn : ys = (ys.map Int.toNat).map fun n : Nat => (n : Int) := ints_nats ys fun y hy => by
    obtain ⟨z, _, rfl⟩ := List.mem_map.mp (h1.mem_iff.mp hy)
    omega
  refine q _ _ _ (ys.map Int.toNat) n ⟨p, _, rfl, upd_same, ?_⟩ ?_
  · have := nats_pd (G := upd G2 p (.lst (ys.map V.int))) (ys.map Int.toNat)
    rw [← hnn] at this
    exact this
  · have h3 := h1.map Int.toNat
    rw [List.map_map] at h3
    have e4 : (x.map (Int.toNat ∘ fun z => (z.1 : Int))) = x.map (·.1) := List.map_congr_left fun z _ => by
      show ((z.1 : Int)).toNat = z.1
      omega
    rwa [e4] at h3
/-! locked statements -/
theorem lk_ins {a C dx : Addr} {fs : List (Str × V)} {G G' : Hp} (e : Le G G') (h : G a = some (.ins C dx fs)) : G' a = some (.ins C dx fs) := e.at rfl (fun _ _ z => nomatch z) h
theorem lk_J : Lk rJ := lk_T2 lk_S fun _ h => h
theorem lk_E : Lk rE := fun e h => by
  obtain ⟨a, h1, h2⟩ := h
  exact ⟨a, h1, e.at rfl (fun _ _ z => nomatch z) h2⟩
theorem lk_log : Lk (rLog K) := fun e h => by
  obtain ⟨a, dx, v1, v3, v4, h1, h2, h3, h4, h5⟩ := h
  exact ⟨a, dx, v1, v3, v4, h1, lk_ins e h2, lk_L lk_S e h3, lk_L lk_J e h4, lk_L lk_E e h5⟩
theorem lk_End : Lk rEnd := lk_T3 (lk_T2 lk_N lk_N) lk_S lk_S
/-- what stands when d is unlocked -/
def LkU (R : Rp α) : Prop := ∀ {G : Hp} {v : V} {x : α} {d : Addr} {od : Obj} {o : HO}, G d = some (.frz od o) → isD o = true → R.is G v x → R.is (upd G d o) v x
theorem lk_u (k : Lk R) : LkU R := fun h hu r => k (Le.unlock h hu) r
theorem lku_D {kf : κ → Key} (k : Lk R) : LkU (rD kf R) := fun {G v x d od o} h hu r => by
  obtain ⟨a, kvs, rfl, ha, hp⟩ := r
  refine ⟨a, kvs, rfl, ?_, pd_mono (fun _ _ h' => ⟨h'.1, k (Le.unlock h hu) h'.2⟩) hp⟩
  rw [upd_ne (fun e => by subst e; rw [h] at ha; cases ha)]
  exact ha
/-- name = (a comprehension over a dict that is locked) -/
theorem q_lockAsg {i : Nat} {P : α → Prop} {o : HO} (k1 : LkU R) (hd : G d = some o) (hu : isD o = true) (h : ∀ od, EvP R te σ (upd G d (.frz od o)) P) (e : Ex G H) (k : ∀ v G2 H2 x, Nxt G H G2 H2 → R.is G2 v x → P x → u D (σ.set i (some v)) H2) :
    tSeq (tLock (tAsg te (gName i))) u D σ H :=
  ⟨d, o, e d o hd, mut_isD hu, fun od => h od _ e.upd2 _ fun v G2 H2 x n r p => by
    have h1 : H2 d = some (.frz od o) := n.h d _ upd_same
    have h2 : G2 d = some (.frz od o) := n.g d _ upd_same
    exact ⟨h1, k v _ _ x (nxt_unlock hd e n) (k1 h2 hu r) p⟩⟩
/-- the values of a locked dict with tuples as keys -/
theorem ei_valsT {kf : κ → List Key} {xs : List (κ × α)} {od : Obj} {kvs : List (List Key × V)} {i : Nat} (hi : σ[i]? = some (some (.ref d))) (hd : G d = some (.frz od (.dT kvs))) (hp : Pd (Ent kf R G) kvs xs) : EvI R (iValsT (tVar i)) σ G (fun ys => ys = xs.map (·.2)) := fun H e Rr q =>
  ⟨.ref d, hi, d, od, kvs, rfl, e d _ hd, q _ G H _ (Nxt.refl e) rfl ⟨fun i H e2 hi => ⟨e2 d _ hd, by rw [pd_len hp]; rwa [List.length_map] at hi⟩, fun i y hy H3 G3 e3 e4 => by
    rw [List.getElem?_map] at hy
    obtain ⟨z, hz, rfl⟩ := Option.map_eq_some_iff.mp hy
    obtain ⟨u, hu, ru⟩ := pd_get hp hz
    refine ⟨⟨e4 d _ (e3 d _ hd), (List.getElem?_eq_some_iff.mp hu).1⟩, fun v H' hv => ?_⟩
    obtain ⟨rfl, kv, hkv, rfl⟩ := hv
    rw [hu] at hkv; cases hkv
    exact ⟨G3, Nxt.refl e4, R.ex e3 ru.2⟩⟩⟩
theorem nxt_upd {G2 H2 : Hp} {o : HO} (n : Nxt G H G2 H2) : Nxt (upd G d o) (upd H d o) (upd G2 d o) (upd H2 d o) := by
  refine ⟨fun a u h => ?_, fun a u h => ?_, n.s.upd2, fun a u h => ?_⟩
  · by_cases z : a = d
    · subst z; rw [upd_same] at h ⊢; exact h
    · rw [upd_ne z] at h ⊢; exact n.g a u h
  · by_cases z : a = d
    · subst z; rw [upd_same] at h ⊢; exact h
    · rw [upd_ne z] at h ⊢; exact n.h a u h
  · by_cases z : a = d
    · subst z; rw [upd_same] at h ⊢; exact .inl h
    · rw [upd_ne z] at h
      rcases n.f a u h with q | q
      · exact .inl (by rw [upd_ne z]; exact q)
      · exact .inr (by rw [upd_ne z]; exact q)
theorem ex_unlk {G2 : Hp} {o o2 : HO} (hd : G d = some o) (e : Ex (upd G d o2) G2) : Ex G (upd G2 d o) := fun a u h => by
  by_cases z : a = d
  · subst z; rw [hd] at h; cases h; exact upd_same
  · rw [upd_ne z]; exact e a u (by rw [upd_ne z]; exact h)
theorem upd_swap {a b : Addr} {o o2 : HO} (h : a ≠ b) : upd (upd H a o) b o2 = upd (upd H b o2) a o := funext fun x => by
  by_cases h1 : x = b
  · subst h1; rw [upd_same, upd_ne (Ne.symm h), upd_same]
  · rw [upd_ne h1]
    by_cases h2 : x = a
    · subst h2; rw [upd_same, upd_same]
    · rw [upd_ne h2, upd_ne h2, upd_ne h1]
/-! dicts of lists that grow -/
abbrev natV (ns : List Nat) : List V := (ns.map fun n : Nat => (n : Int)).map V.int
abbrev GEnt (Hs G H : Hp) : List Key × V → (Str × Int) × List Nat → Prop := fun p q => p.1 = kSI q.1 ∧ ∃ l, p.2 = .ref l ∧ Own Hs G H l (.lst (natV q.2))
structure Grp (Hs G H : Hp) (d : Addr) (us : List (List Key × V)) (ps : List ((Str × Int) × List Nat)) : Prop where
  own : Own Hs G H d (.dT us)
  ent : Pd (GEnt Hs G H) us ps
  nd : (us.map (·.2)).Nodup
theorem Grp.nxt {G2 H2 : Hp} {us : List (List Key × V)} {ps : List ((Str × Int) × List Nat)} (g : Grp Hs G H d us ps) (n : Nxt G H G2 H2) : Grp Hs G2 H2 d us ps := ⟨g.own.nxt n, pd_mono (fun _ _ ⟨h, l, h1, h2⟩ => ⟨h, l, h1, h2.nxt n⟩) g.ent, g.nd⟩
theorem g_look : ∀ {us : List (List Key × V)} {ps : List ((Str × Int) × List Nat)} (k : Str × Int), Pd (GEnt Hs G H) us ps → (look ps k = none ∧ valV us (kSI k) = none) ∨ ∃ ns l, look ps k = some ns ∧ valV us (kSI k) = some (.ref l) ∧ V.ref l ∈ us.map (·.2) ∧ Own Hs G H l (.lst (natV ns))
  | _, _, _, .nil => .inl ⟨rfl, rfl⟩
  | p :: us, q :: ps, k, .cons a t => by
    rw [look_cons]
    by_cases h : q.1 = k
    · subst h
      rw [if_pos rfl, valV_pos a.1]
      obtain ⟨l, h1, h2⟩ := a.2
      exact .inr ⟨_, l, rfl, by rw [h1], by rw [List.map_cons, h1]; exact List.mem_cons_self, h2⟩
    · rw [if_neg h, valV_neg (fun e => h (inj_SI _ _ (a.1.symm.trans e)))]
      rcases g_look k t with z | ⟨ns, l, h1, h2, h3, h4⟩
      · exact .inl z
      · exact .inr ⟨ns, l, h1, h2, by rw [List.map_cons]; exact List.mem_cons_of_mem _ h3, h4⟩
/-- the list at l, which is k's, grows -/
theorem g_grow {ps : List ((Str × Int) × List Nat)} {us : List (List Key × V)} {k : Str × Int} {ns : List Nat} {l : Addr} (h : Pd (GEnt Hs G H) us ps) (nd : (us.map (·.2)).Nodup) (hl : look ps k = some ns) (hv : valV us (kSI k) = some (.ref l)) (ndk : (ps.map (·.1)).Nodup) (ns' : List Nat) :
    Pd (GEnt Hs G (upd H l (.lst (natV ns')))) us (put ps k ns') := by
  have hany : (ps.any fun kv => decide (kv.1 = k)) = true := List.any_eq_true.mpr ⟨_, look_some_mem hl, decide_eq_true rfl⟩
  unfold put
  rw [if_pos hany]
  clear hany
  induction h with
  | nil => exact .nil
  | @cons p q us ps a t ih =>
    rw [List.map_cons, List.nodup_cons] at nd ndk
    rw [look_cons] at hl
    obtain ⟨h1, l', h2, h3⟩ := a
    by_cases e : q.1 = k
    · subst e
      rw [valV_pos h1] at hv
      rw [h2] at hv
      cases hv
      refine .cons (show GEnt Hs G _ p (if q.1 = q.1 then (q.1, ns') else q) from ?_) ?_
      · rw [if_pos rfl]
        exact ⟨h1, l, h2, h3.set⟩
      have key : ∀ {us : List (List Key × V)} {ps : List ((Str × Int) × List Nat)}, Pd (GEnt Hs G H) us ps → V.ref l ∉ us.map (·.2) → q.1 ∉ ps.map (·.1) → Pd (GEnt Hs G (upd H l (.lst (natV ns')))) us (ps.map fun kv => if kv.1 = q.1 then (kv.1, ns') else kv) := by
        intro us ps h
        induction h with
        | nil => intro _ _; exact .nil
        | @cons p2 q2 us ps a2 t2 ih2 =>
          intro hn hk
          rw [List.map_cons, List.mem_cons, not_or] at hn hk
          obtain ⟨g1, l2, g2, g3⟩ := a2
          refine .cons ?_ (ih2 hn.2 hk.2)
          show GEnt Hs G _ p2 (if q2.1 = q.1 then (q2.1, ns') else q2)
          rw [if_neg fun c => hk.1 c.symm]
          exact ⟨g1, l2, g2, g3.other fun c => hn.1 (by rw [g2, c])⟩
      exact key t (by rw [← h2]; exact nd.1) ndk.1
    · rw [if_neg e] at hl
      rw [valV_neg (fun c => e (inj_SI _ _ (h1.symm.trans c)))] at hv
      refine .cons ?_ (ih nd.2 hl hv ndk.2)
      show GEnt Hs G _ p (if q.1 = k then (q.1, ns') else q)
      rw [if_neg e]
      refine ⟨h1, l', h2, h3.other fun c => ?_⟩
      rcases g_look k t with ⟨z, _⟩ | ⟨_, l3, _, z2, z3, _⟩
      · rw [hl] at z; cases z
      · rw [hv] at z2
        cases z2
        exact nd.1 (by rw [h2, c]; exact z3)
theorem g_keep {ps : List ((Str × Int) × List Nat)} {us : List (List Key × V)} {m : Addr} {o : HO} (h : Pd (GEnt Hs G H) us ps) (hm : V.ref m ∉ us.map (·.2)) : Pd (GEnt Hs G (upd H m o)) us ps := by
  induction h with
  | nil => exact .nil
  | @cons p q us ps a t ih =>
    rw [List.map_cons, List.mem_cons, not_or] at hm
    obtain ⟨h1, l', h2, h3⟩ := a
    exact .cons ⟨h1, l', h2, h3.other fun c => hm.1 (by rw [h2, c])⟩ (ih hm.2)
theorem g_lst {ps : List ((Str × Int) × List Nat)} {us : List (List Key × V)} {m : Addr} (h : Pd (GEnt Hs G H) us ps) (hm : V.ref m ∈ us.map (·.2)) : ∃ xs, H m = some (.lst xs) := by
  obtain ⟨p, hp, e⟩ := List.mem_map.mp hm
  obtain ⟨q, _, _, l, h2, h3⟩ := pd_mem h hp
  rw [h2] at e
  cases e
  exact ⟨_, h3.h⟩
/-- d.setdefault(k, []).append(n) -/
theorem s_group {us : List (List Key × V)} {ps : List ((Str × Int) × List Nat)} {i j : Nat} {tk : TE} {k : Str × Int} {n : Nat} (g : Grp Hs G H d us ps) (e : Ex G H) (hsH : Ex Hs H) (hi : σ[i]? = some (some (.ref d))) (hj : σ[j]? = some (some (.int (n : Int)))) (hk : EvD (rT2 rS FW.rI) tk σ G k) (ndk : (ps.map (·.1)).Nodup) (hlen : ps.length < 1000) (hl : ∀ ns, look ps k = some ns → ns.length < 1000)
    (q : ∀ G2 H2 us', Nxt G H G2 H2 ∨ True → Ex G G2 → Ex G2 H2 → Ex Hs H2 → (∀ a o, H a = some o → Hs a ≠ none ∨ G a ≠ none → H2 a = some o) → (∀ Hs' l o, Own Hs' G H l o → l ≠ d → V.ref l ∉ us.map (·.2) → Own Hs' G2 H2 l o) → (∀ G0 H0, Ex H0 Hs → Nxt G0 H0 G H → Nxt G0 H0 G2 H2) → Grp Hs G2 H2 d us' (put ps k ((look ps k).getD [] ++ [n])) → D.nx σ H2) :
    tDrop (tBM K "list" rAppend (tDSetT (tVar i) tk (tLst tNil)) (tCons (tVar j) tNil)) D σ H := by
  have hus := pd_len g.ent
  refine ⟨.ref d, hi, d, rfl, .inr ⟨us, .inl g.own.h⟩, hk H e _ fun v G1 H1 x n1 r1 p1 => ?_⟩
  subst p1
  obtain ⟨b, v1, v2, rfl, hb, h1, h2⟩ := r1
  cases h1; cases h2
  have g1 := g.nxt n1
  refine ⟨Nat.zero_le _, fun p hp => ?_⟩
  have n2 := Nxt.mut (o := .lst []) n1 (n1.h.free hp) (n1.s.free hp)
  have nn : Nxt G1 H1 G1 (upd H1 p (.lst [])) := (Nxt.refl n1.s).mut hp (n1.s.free hp)
  have g2 := g1.nxt nn
  have hpS : Hs p = none := hsH.free (n1.h.free hp)
  have hb2 : upd H1 p (.lst []) b = some (.tup [V.str x.1, V.int x.2]) := nn.h b _ (n1.s b _ hb)
  refine ⟨us, kSI x, b, g2.own.h, rfl, hb2, Nat.lt_of_lt_of_le (show us.length < 1000 by omega) (by decide), fun w hw => ?_, fun hw => ?_⟩
  · rcases g_look x g2.ent with ⟨_, z⟩ | ⟨ns, l, z1, z2, z3, z4⟩
    · rw [hw] at z; cases z
    · rw [hw] at z2
      cases z2
      have hln := hl ns z1
      refine .inl ⟨rfl, _, SqL.of z4.h⟩ |> fun hh => ⟨hh, ?_⟩
      refine ⟨_, hj, l, natV ns, .int (n : Int), rfl, rfl, z4.h, ?_, ?_⟩
      · show (natV ns).length < sizeLine
        rw [List.length_map, List.length_map]
        exact Nat.lt_of_lt_of_le hln (by decide)
      · have e1 : natV ns ++ [V.int (n : Int)] = natV (ns ++ [n]) := by simp [natV]
        rw [e1]
        have hne : d ≠ l := fun c => by
          have := g2.own.h
          rw [c, z4.h] at this
          cases this
        have n3 := n2.mut (o := .lst (natV (ns ++ [n]))) (l := l)
        refine q G1 _ us (.inr trivial) n1.g (nn.s.mut z4.g) ((hsH.trans n2.h).mut z4.s) (fun a o ha hor => ?_) (fun Hs' l' o ho hd hu => ?_) (fun G0 H0 e0 m => ?_) ?_
        · have : a ≠ l := fun c => by
            subst c
            rcases hor with c | c
            · exact c z4.s
            · cases q1 : G a with
              | none => exact c q1
              | some u =>
                have := n1.g a u q1
                rw [z4.g] at this; cases this
          rw [upd_ne this]
          exact n2.h a o ha
        · have ho2 := (ho.nxt n1).nxt nn
          exact ho2.other fun c => hu (c ▸ z3)
        · exact ((m.trans n1).trans nn).mut (e0.free z4.s) z4.g
        · rw [z1]
          refine ⟨g2.own.other hne, g_grow g2.ent g2.nd z1 hw ndk _, g2.nd⟩
  · rcases g_look x g2.ent with ⟨z, _⟩ | ⟨ns, l, z1, z2, z3, z4⟩
    · have hpd : p ≠ d := fun c => by
        have := g1.own.h
        rw [← c, hp] at this
        cases this
      have hpu : V.ref p ∉ us.map (·.2) := fun c => by
        obtain ⟨xs, hx⟩ := g_lst g1.ent c
        rw [hp] at hx; cases hx
      have hfresh : putK us (kSI x) (.ref p) = us ++ [(kSI x, .ref p)] := by
        unfold putK
        rw [if_neg]
        intro c
        obtain ⟨y, hy, hy2⟩ := List.any_eq_true.mp c
        obtain ⟨y2, hy3, hy4, _⟩ := pd_mem g1.ent hy
        have : y2.1 = x := inj_SI _ _ (hy4.symm.trans (of_decide_eq_true hy2))
        exact look_none.mp z (List.mem_map.mpr ⟨y2, hy3, this⟩)
      have hput : put ps x [n] = ps ++ [(x, [n])] := by
        unfold put
        rw [if_neg]
        intro c
        obtain ⟨y, hy, hy2⟩ := List.any_eq_true.mp c
        exact look_none.mp z (List.mem_map.mpr ⟨y, hy, of_decide_eq_true hy2⟩)
      have own2 : Own Hs G1 (upd H1 p (.lst [])) p (.lst []) := ⟨hpS, n1.s.free hp, upd_same⟩
      have own3 : Own Hs G1 (upd (upd H1 p (.lst [])) d (.dT (putK us (kSI x) (.ref p)))) p (.lst []) := own2.other hpd
      refine ⟨.inl ⟨rfl, _, SqL.of own3.h⟩, ?_⟩
      refine ⟨_, hj, p, [], .int (n : Int), rfl, rfl, own3.h, by show 0 < sizeLine; decide, ?_⟩
      refine q G1 _ (us ++ [(kSI x, .ref p)]) (.inr trivial) n1.g ?_ ?_ (fun a o ha hor => ?_) (fun Hs' l' o ho hd hu => ?_) (fun G0 H0 e0 m => ?_) ?_
      · exact (nn.s.mut g1.own.g).mut own3.g
      · exact ((hsH.trans n2.h).mut g1.own.s).mut own3.s
      · have h1 : a ≠ p := fun c => by
          subst c
          have := n1.h a o ha
          rw [hp] at this; cases this
        have h2 : a ≠ d := fun c => by
          subst c
          rcases hor with c | c
          · exact c g.own.s
          · exact c g.own.g
        rw [upd_ne h1, upd_ne h2]
        exact n2.h a o ha
      · have ho2 := (ho.nxt n1).nxt nn
        exact (ho2.other hd).other fun c => by
          subst c
          have := (ho.nxt n1).h
          rw [hp] at this; cases this
      · exact (((m.trans n1).trans nn).mut (e0.free g1.own.s) g1.own.g).mut (e0.free own3.s) own3.g
      · rw [z]
        have e9 : ((none : Option (List Nat)).getD [] ++ [n]) = [n] := rfl
        rw [e9, hput]
        refine ⟨?_, ?_, ?_⟩
        · have := (g2.own.set (u := .dT (us ++ [(kSI x, .ref p)])))
          rw [hfresh]
          exact this.other (Ne.symm hpd)
        · refine pd_snoc ?_ ⟨rfl, p, rfl, own3.set⟩
          refine g_keep (g_keep g2.ent fun c => ?_) hpu
          obtain ⟨xs, hx⟩ := g_lst g2.ent c
          rw [g2.own.h] at hx; cases hx
        · rw [List.map_append, List.nodup_append]
          refine ⟨g.nd, List.nodup_cons.mpr ⟨by simp, List.nodup_nil⟩, fun a ha b hb c => ?_⟩
          rw [List.map_cons, List.map_nil, List.mem_singleton] at hb
          subst hb; subst c
          exact hpu ha
    · rw [hw] at z2; cases z2
theorem g_told {us : List (List Key × V)} {ps : List ((Str × Int) × List Nat)} {o : HO} (t : Pd (GEnt Hs G H) us ps) (hl : V.ref l ∉ us.map (·.2)) : Pd (GEnt Hs (upd G l o) H) us ps := by
  induction t with
  | nil => exact .nil
  | @cons p2 q2 us ps a2 t2 ih2 =>
    rw [List.map_cons, List.mem_cons, not_or] at hl
    obtain ⟨k1, l2, k2, k3⟩ := a2
    exact .cons ⟨k1, l2, k2, k3.s, by rw [upd_ne (fun c => hl.1 (by rw [k2, c]))]; exact k3.g, k3.h⟩ (ih2 hl.2)
theorem grp_tell1 (e0 : Ex H0 Hs) : ∀ (us : List (List Key × V)) (ps : List ((Str × Int) × List Nat)) (G : Hp), Pd (GEnt Hs G H) us ps → (us.map (·.2)).Nodup → Nxt G0 H0 G H → ∃ G2, Nxt G0 H0 G2 H ∧ Ex G G2 ∧ Pd (Ent kSI (rL rN) G2) us ps ∧ ∀ a o, G2 a = some o → G a = some o ∨ ∃ xs, o = .lst xs ∧ V.ref a ∈ us.map (·.2)
  | [], [], G, _, _, n => ⟨G, n, Ex.refl _, .nil, fun a o h => .inl h⟩
  | [], _ :: _, _, h, _, _ => by cases h
  | _ :: _, [], _, h, _, _ => by cases h
  | p :: us, q :: ps, G, .cons a t, nd, n => by
    rw [List.map_cons, List.nodup_cons] at nd
    obtain ⟨h1, l, h2, h3⟩ := a
    have n1 := n.tell (e0.free h3.s) h3.h h3.g
    have t2 : Pd (GEnt Hs (upd G l (.lst (natV q.2))) H) us ps := g_told t (by rw [← h2]; exact nd.1)
    obtain ⟨G2, m1, m2, m3, m4⟩ := grp_tell1 e0 us ps _ t2 nd.2 n1
    refine ⟨G2, m1, (Ex.new h3.g).trans m2, .cons ⟨h1, l, natV q.2, h2, m2 l _ upd_same, nats_pd q.2⟩ m3, fun a o h => ?_⟩
    rcases m4 a o h with z | ⟨xs, z1, z2⟩
    · by_cases c : a = l
      · subst c
        rw [upd_same] at z
        cases z
        exact .inr ⟨_, rfl, by rw [List.map_cons, h2]; exact List.mem_cons_self⟩
      · rw [upd_ne c] at z; exact .inl z
    · exact .inr ⟨xs, z1, by rw [List.map_cons]; exact List.mem_cons_of_mem _ z2⟩
/-- all of it told -/
theorem Grp.tell {us : List (List Key × V)} {ps : List ((Str × Int) × List Nat)} (g : Grp Hs G H d us ps) (e0 : Ex H0 Hs) (n : Nxt G0 H0 G H) : ∃ G2, Nxt G0 H0 G2 H ∧ Ex G G2 ∧ G2 d = some (.dT us) ∧ Pd (Ent kSI (rL rN) G2) us ps ∧ ∀ a o, G2 a = some o → G a = some o ∨ (∃ xs, o = .lst xs) ∨ a = d := by
  obtain ⟨G2, m1, m2, m3, m4⟩ := grp_tell1 e0 us ps G g.ent g.nd n
  have hd : G2 d = none := by
    cases c : G2 d with
    | none => rfl
    | some o =>
      rcases m4 d o c with z | ⟨xs, z, _⟩
      · rw [g.own.g] at z; cases z
      · have := m1.s d o c
        rw [g.own.h] at this
        cases this; cases z
  refine ⟨upd G2 d (.dT us), m1.tell (e0.free g.own.s) g.own.h hd, m2.trans (Ex.new hd), upd_same, pd_mono (fun _ _ h => ⟨h.1, (rL rN).ex (Ex.new hd) h.2⟩) m3, fun a o h => ?_⟩
  by_cases c : a = d
  · exact .inr (.inr c)
  · rw [upd_ne c] at h
    rcases m4 a o h with z | ⟨xs, z, _⟩
    · exact .inl z
    · exact .inr (.inl ⟨xs, z⟩)
end
end FW
/-! outer_answers, thinned. -/
namespace FW
open PySem PySem.Spec PyProof.Rows L2 Hd
def keyOf (L : Log) (p : Nat) : Str × Int := (itOf L p, grOf L p)
/-- the groups of the places xs -/
structure GrpOk (L : Log) (xs : List Nat) (ps : List ((Str × Int) × List Nat)) : Prop where
  nd : (ps.map (·.1)).Nodup
  each : ∀ k l, look ps k = some l → l ≠ [] ∧ l = xs.filter fun p => decide (keyOf L p = k)
  all : ∀ p ∈ xs, look ps (keyOf L p) ≠ none
  len : ps.length ≤ xs.length
theorem GrpOk.step {L : Log} {xs : List Nat} {ps : List ((Str × Int) × List Nat)} (h : GrpOk L xs ps) (x : Nat) : GrpOk L (xs ++ [x]) (put ps (keyOf L x) ((look ps (keyOf L x)).getD [] ++ [x])) := by
  refine ⟨put_nodup h.nd, fun k l hl => ?_, fun p hp => ?_, ?_⟩
  · rw [look_put] at hl
    rw [List.filter_append]
    by_cases c : k = keyOf L x
    · rw [if_pos c] at hl
      cases hl
      refine ⟨by simp, ?_⟩
      rw [List.filter_cons, if_pos (decide_eq_true c.symm), List.filter_nil]
      congr 1
      cases q : look ps (keyOf L x) with
      | some l => rw [c]; exact (h.each _ _ q).2
      | none =>
        symm
        show xs.filter (fun p => decide (keyOf L p = k)) = []
        rw [List.filter_eq_nil_iff]
        intro p hp hk
        have := of_decide_eq_true hk
        exact h.all p hp (by rw [this, c]; exact q)
    · rw [if_neg c] at hl
      obtain ⟨h1, h2⟩ := h.each k l hl
      refine ⟨h1, ?_⟩
      rw [List.filter_cons, if_neg (by rw [decide_eq_true_eq]; exact fun e => c e.symm), List.filter_nil, List.append_nil]
      exact h2
  · rw [look_put]
    rcases List.mem_append.mp hp with hp | hp
    · by_cases c : keyOf L p = keyOf L x
      · rw [if_pos c]; exact nofun
      · rw [if_neg c]; exact h.all p hp
    · rw [List.mem_singleton.mp hp, if_pos rfl]; exact nofun
  · rw [put_len, List.length_append, List.length_singleton]
    have := h.len
    split <;> omega
/-- keys stand on both sides of p, in its stretch, with its item and grade -/
def OutOk (L : Log) (keys : List Nat) (j : Str) (p : Nat) : Prop := ∃ a b, a ∈ keys ∧ b ∈ keys ∧ RB.AnsOf L j a ∧ RB.AnsOf L j b ∧ RB.Same L j p a ∧ RB.Same L j p b ∧ keyOf L a = keyOf L p ∧ keyOf L b = keyOf L p ∧ a ≤ p ∧ p ≤ b
theorem OutOk.mono {L : Log} {ks ks' : List Nat} {j : Str} {p : Nat} (h : OutOk L ks j p) (k : ∀ x ∈ ks, x ∈ ks') : OutOk L ks' j p := by
  obtain ⟨a, b, h1, h2, h3⟩ := h
  exact ⟨a, b, k a h1, k b h2, h3⟩
structure IsOut (L : Log) (y : List Nat) : Prop where
  ans : ∀ p ∈ y, isAns L p = true
  ok : ∀ z ∈ L.judges, ∀ p, RB.AnsOf L z.1 p → OutOk L y z.1 p
theorem pw_head {a : Nat} {r : List Nat} (h : (a :: r).Pairwise (· < ·)) : ∀ p ∈ a :: r, a ≤ p := fun p hp => by
  rcases List.mem_cons.mp hp with rfl | hp
  · exact Nat.le_refl _
  · exact Nat.le_of_lt ((List.pairwise_cons.mp h).1 p hp)
theorem pw_last {b : Nat} {r : List Nat} (h : (r ++ [b]).Pairwise (· < ·)) : ∀ p ∈ r ++ [b], p ≤ b := fun p hp => by
  rcases List.mem_append.mp hp with hp | hp
  · exact Nat.le_of_lt ((List.pairwise_append.mp h).2.2 p hp b (List.mem_singleton.mpr rfl))
  · rw [List.mem_singleton.mp hp]; exact Nat.le_refl _
/-- the ends of a list that is not empty -/
theorem two_ends {l : List Nat} (h : l ≠ []) : ∃ a r b r', l = a :: r ∧ l = r' ++ [b] := by
  cases l with
  | nil => exact absurd rfl h
  | cons a r => exact ⟨a, r, _, _, rfl, (List.dropLast_concat_getLast h).symm⟩
/-- the first and the last of each group -/
def EndsIn (keys : List Nat) (ls : List (List Nat)) : Prop := ∀ l ∈ ls, ∀ a r b r', l = a :: r → l = r' ++ [b] → a ∈ keys ∧ b ∈ keys
theorem outOk_of {L : Log} {j : Str} {s keys : List Nat} {ps : List ((Str × Int) × List Nat)} (g : GrpOk L s ps) (hs : s.Pairwise (· < ·)) {p0 : Nat} (hp0 : RB.AnsOf L j p0) (hm : ∀ a, a ∈ s ↔ RB.AnsOf L j a ∧ RB.Same L j p0 a) (he : EndsIn keys (ps.map (·.2))) {p : Nat} (hp : p ∈ s) : OutOk L keys j p := by
  cases q : look ps (keyOf L p) with
  | none => exact absurd q (g.all p hp)
  | some l =>
    obtain ⟨h1, h2⟩ := g.each _ _ q
    obtain ⟨a, r, b, r', e1, e2⟩ := two_ends h1
    have hk := he l (List.mem_map.mpr ⟨_, look_some_mem q, rfl⟩) a r b r' e1 e2
    have hpw : l.Pairwise (· < ·) := by rw [h2]; exact hs.filter _
    have hpl : p ∈ l := by rw [h2]; exact List.mem_filter.mpr ⟨hp, decide_eq_true rfl⟩
    have ha : a ∈ l := by rw [e1]; exact List.mem_cons_self
    have hb : b ∈ l := by rw [e2]; exact List.mem_append_right _ (List.mem_singleton.mpr rfl)
    have hin : ∀ c ∈ l, c ∈ s ∧ keyOf L c = keyOf L p := fun c hc => by
      rw [h2] at hc
      obtain ⟨c1, c2⟩ := List.mem_filter.mp hc
      exact ⟨c1, of_decide_eq_true c2⟩
    have hps := (hm p).mp hp
    have same : ∀ c ∈ s, RB.AnsOf L j c ∧ RB.Same L j p c := fun c hc => by
      have := (hm c).mp hc
      exact ⟨this.1, hps.2.symm.trans hp0 this.2⟩
    exact ⟨a, b, hk.1, hk.2, (same a (hin a ha).1).1, (same b (hin b hb).1).1, (same a (hin a ha).1).2, (same b (hin b hb).1).2, (hin a ha).2, (hin b hb).2, pw_head (e1 ▸ hpw) p (e1 ▸ hpl), pw_last (e2 ▸ hpw) p (e2 ▸ hpl)⟩
section
variable {P : Program} {w : World} {K : PySem.W.Frag} {mg : Str → Option Value} {base : Heap}

abbrev N_outer_answers : List Str := ["log", "found", "judge", "_", "stretch", "alike", "place", "places"]
theorem sc_outer_answers : FnScope N_outer_answers ["log"] (defScope s_outer_answers) := ⟨rfl, rfl, rfl, by decide +kernel, rfl, by decide +kernel, by decide +kernel⟩
theorem mk_outer_answers (T : Tx K mg) {sp : Sp} (len : ∀ vs H Q E, sp vs H Q E → vs.length = 1)
    (hb : ∀ (cdv : Value) (A : Around) (outer : List Env) (s : Shared) (H : Hp) (vs : List V) (Q : VK) (E : XK), Room 6 (A.deeper (envOfC "outer_answers" (defScope s_outer_answers) s.heap.objs.size (He.ga K "outer_answers") cdv)) → sp vs H Q E →
      ∃ t, PSs (cxOf CX0 P w K mg base N_outer_answers "outer_answers" (defScope s_outer_answers) (He.ga K "outer_answers") cdv A outer s H E).nox (defBody s_outer_answers) t ∧ t { nx := fun _ H' => Q .non H', rt := Q } (start N_outer_answers vs) H) : Cal P w K mg base 7 "outer_answers" sp := by
  obtain ⟨fd, F⟩ := T.fn 24 rfl
  have b : Binds K fd ["log"] [] := F.binds fun _ _ _ _ _ _ us hl => match us, hl with | [_], _ => rfl
  exact ⟨_, fd, _, F.ok sc_outer_answers len hb, T.glo 23 rfl, F.kp, b⟩
def sp_outer_answers (K : PySem.W.Frag) : Sp := mkSp (aLog K) (rL rN) (fun L y => IsOut L y)
theorem ln_outer_answers {K : PySem.W.Frag} : ∀ vs H Q E, sp_outer_answers K vs H Q E → vs.length = 1 := by
  rintro vs H Q E ⟨G, i, e, h, _⟩
  have h : (aLog K) i G vs := h
  obtain ⟨_, v, rfl, _⟩ := h; rfl
theorem ok_outer_answers (T : Tx K mg) : Cal P w K mg base 7 "outer_answers" (sp_outer_answers K) := mk_outer_answers T ln_outer_answers (fun cdv A outer s H vs Q E hr h => by
  have hu := hu_of hr
  have nd := sc_outer_answers.nd
  obtain ⟨G, i, e, ha, q⟩ := h
  refine ⟨_, pss_cons (ps_set (i := 1) nd rfl (Or.inl rfl) (pe_dnewK))
      (pss_cons (ps_for PassesOwn.never rfl (k_iList (K := K) rfl (pe_p (ok_Log_judges T) hr (pv 0))) (pg_tup rfl (pgs_cons (pg_name (i := 2) nd rfl (Or.inl rfl)) (pgs_cons (pg_name (i := 3) nd rfl (Or.inl rfl)) pgs_nil))) (pss_one (ps_for PassesOwn.never rfl (k_iList (K := K) rfl (pe_m (ok_Log_stretches T) hr (pv 0) (pa_cons (pv 2) pa_nil))) (pg_name (i := 4) nd rfl (Or.inl rfl)) (pss_cons (ps_set (i := 5) nd rfl (Or.inl rfl) (pe_dnewT))
      (pss_cons (ps_for PassesOwn.never rfl (k_iList (K := K) rfl (pv 4)) (pg_name (i := 6) nd rfl (Or.inl rfl)) (pss_one (ps_expr (pe_bm PySem.F.plainAttrs_list PySem.F.slot_list_append PySem.F.type_list_append mt_append (pe_dsetdT hu (pv 5) (pe_tup (pa_cons (pe_m (ok_Log_item_at T) hr (pv 0) (pa_cons (pv 6) pa_nil)) (pa_cons (pe_m (ok_Log_grade_at T) hr (pv 0) (pa_cons (pv 6) pa_nil)) pa_nil))) (pe_lst (pa_nil)) pe_m2g) (pa_cons (pv 6) pa_nil)))))
      (pss_one (ps_lock (ps_for PassesOwn.never rfl (pi_valuesT (pv 5)) (pg_name (i := 7) nd rfl (Or.inl rfl)) (pss_cons (ps_dput hu (pv 1) (pe_ix (k_ixL (K := K) rfl) (pv 7) (pe_int) (fun _ _ => rfl)) (pe_bl) rfl)
      (pss_one (ps_dput hu (pv 1) (pe_ix (k_ixL (K := K) rfl) (pv 7) (pe_un un_neg (pe_int)) (fun _ _ => rfl)) (pe_bl) rfl)))))))))))
      (pss_one (ps_ret (pe_callB (call_sortedDI rfl) (by rfl) (T.free 78 rfl) (by decide +kernel) (pa_cons (pv 1) pa_nil))))), ?_⟩
  obtain ⟨W, v, rfl, hv⟩ := ha
  have hel := W.elen
  have hal := ansL_len (L := i)
  refine q_newK e fun f H1 n1 own1 => ?_
  refine q_for (ei_list (R := rJ) (P := fun xs => xs = i.judges) (ev_lp W (ev_var rfl hv) "judges" (by intros; rfl))) n1.s (fun xs G2 H2 hx n2 => ?_)
  subst hx
  refine ⟨fun k σ' G' H' => Nxt G H G' H' ∧ (∃ a2 a3 a4 a5 a6 a7, σ' = [some v, some (.ref f), a2, a3, a4, a5, a6, a7]) ∧ ∃ us fs, Own H G' H' f (.dK us) ∧ Pd (Ent kN rB G') us fs ∧ (fs.map (·.1)).Nodup ∧ (∀ p ∈ fs.map (·.1), isAns i p = true) ∧ ∀ z ∈ i.judges.take k, ∀ p, RB.AnsOf i z.1 p → OutOk i (fs.map (·.1)) z.1 p,
    ⟨n1.trans n2, ⟨_, _, _, _, _, _, rfl⟩, [], [], own1.nxt n2, .nil, List.nodup_nil, by simp, by simp⟩, ?_, ?_⟩
  · rintro k x σ' G' H' hx e1 e2 ⟨nn, ⟨a2, a3, a4, a5, a6, a7, rfl⟩, us, fs, own, pu, fnd, fans, fok⟩ w1 G4 H4 n4 ⟨t, v1, v2, rfl, ht, h1, h2⟩
    have hxj : x.1 ∈ i.judges.map (·.1) := List.mem_map.mpr ⟨x, List.mem_of_getElem? hx, rfl⟩
    refine tg_tup2 ht tg_name tg_name H4 n4.s _ ?_
    refine s_for (ei_list (R := rL rN) (P := fun ss => IsSts i x.1 ss) (ev_lmJ W hxj (ev_var rfl ((rLog K).ex (nn.g.trans n4.g) hv)) (ev_var rfl h1))) n4.s (fun ss G5 H5 hss n5 => ?_)
    refine ⟨fun j σ' G' H' => Nxt G H G' H' ∧ (∃ a4 a5 a6 a7, σ' = [some v, some (.ref f), some v1, some v2, a4, a5, a6, a7]) ∧ ∃ us fs, Own H G' H' f (.dK us) ∧ Pd (Ent kN rB G') us fs ∧ (fs.map (·.1)).Nodup ∧ (∀ p ∈ fs.map (·.1), isAns i p = true) ∧ (∀ z ∈ i.judges.take k, ∀ p, RB.AnsOf i z.1 p → OutOk i (fs.map (·.1)) z.1 p) ∧ ∀ s ∈ ss.take j, ∀ p ∈ s, OutOk i (fs.map (·.1)) x.1 p,
      ⟨(nn.trans n4).trans n5, ⟨_, _, _, _, rfl⟩, us, fs, (own.nxt n4).nxt n5, ent_ex (n4.g.trans n5.g) pu, fnd, fans, fok, by simp⟩, ?_, ?_⟩
    · rintro j s σ' G' H' hs e3 e4 ⟨nn2, ⟨b4, b5, b6, b7, rfl⟩, us, fs, own, pu, fnd, fans, fok, sok⟩ w2 G6 H6 n6 r6
      obtain ⟨s1, s2, p0, hp0, s3⟩ := hss.each s (List.mem_of_getElem? hs)
      have nn6 := nn2.trans n6
      have own6 := own.nxt n6
      have pu6 := ent_ex n6.g pu
      refine q_newT n6.s fun d H7 n7 own7 => ?_
      have nn7 := nn6.trans n7
      refine q_for (G := G6) (ei_list (R := rN) (P := fun ys => ys = s) (ev_var rfl r6)) n7.s (fun ys G8 H8 hy n8 => ?_)
      subst hy
      refine ⟨fun m σ' G' H' => Nxt G H G' H' ∧ (∃ a6 a7, σ' = [some v, some (.ref f), some v1, some v2, some w2, some (.ref d), a6, a7]) ∧ Ex H6 H' ∧ Own H G' H' f (.dK us) ∧ ∃ gs ps, Grp H6 G' H' d gs ps ∧ GrpOk i (ys.take m) ps, ⟨nn7.trans n8, ⟨_, _, rfl⟩, n7.h.trans n8.h, (own6.nxt n7).nxt n8, [], [], ⟨own7.nxt n8, .nil, List.nodup_nil⟩, ⟨List.nodup_nil, fun k l h => (by cases h), by simp, by simp⟩⟩, ?_, ?_⟩
      · rintro m p σ' G' H' hp e5 e6 ⟨nn8, ⟨a6, a7, rfl⟩, ex6, ownf, gs, ps, grp, gok⟩ w3 G9 H9 n9 rfl
        have hpm := (s3 p).mp (List.mem_of_getElem? hp)
        have hpa := (ansOf_iff.mp hpm.1).1
        have hm : m < ys.length := (List.getElem?_eq_some_iff.mp hp).1
        have nn9 := nn8.trans n9
        have grp9 := grp.nxt n9
        have ownf9 := ownf.nxt n9
        have take1 : ys.take (m + 1) = ys.take m ++ [p] := by rw [List.take_add_one, hp]; rfl
        have hpl := gok.len
        rw [List.length_take] at hpl
        refine s_group grp9 n9.s (ex6.trans n9.h) rfl rfl (k := keyOf i p) (n := p) (ev_tup2D (R := rS) (S := FW.rI) (ev_lmP W hpa (ev_var rfl ((rLog K).ex nn9.g hv)) (ev_var rfl rfl)) (ev_lmP W hpa (ev_var rfl ((rLog K).ex nn9.g hv)) (ev_var rfl rfl))) gok.nd (by omega) (fun ns hns => ?_) fun G10 H10 gs' _ ex1 ex2 ex3 hkeep hown hnxt grp10 => ?_
        · rw [(gok.each _ _ hns).2]
          refine Nat.lt_of_le_of_lt (List.length_filter_le _ _) ?_
          rw [List.length_take]; omega
        · refine ⟨G10, (e5.trans n9.g).trans ex1, ex2, hnxt G H nn6.h nn9, ⟨_, _, rfl⟩, ex3, hown H f _ ownf9 (fun c => ?_) (fun c => ?_), gs', _, grp10, ?_⟩
          · have h1 := ownf9.h
            rw [c, grp9.own.h] at h1
            cases h1
          · obtain ⟨xs, hxs⟩ := g_lst grp9.ent c
            rw [ownf9.h] at hxs; cases hxs
          · rw [take1]; exact gok.step p
      · rintro σ' G' H' e5 e6 ⟨nn8, ⟨a6, a7, rfl⟩, ex6, ownf, gs, ps, grp, gok⟩
        rw [List.take_length] at gok
        obtain ⟨GT, nT, exT, hdT, pT, oT⟩ := grp.tell (H0 := H) (G0 := G) nn6.h nn8
        have ownfT : Own H GT H' f (.dK us) := ⟨ownf.s, (by
          cases c : GT f with
          | none => rfl
          | some o =>
            have h1 := nT.s f o c
            rw [ownf.h] at h1
            cases h1
            rcases oT f _ c with z | ⟨xs, z⟩ | z
            · rw [ownf.g] at z; cases z
            · cases z
            · have h2 := nT.s d _ hdT
              rw [← z, ownf.h] at h2
              cases h2), ownf.h⟩
        have hfd : f ≠ d := fun c => by
          have h2 := nT.s d _ hdT
          rw [← c, ownf.h] at h2
          cases h2
        refine ⟨d, .dT gs, nT.s d _ hdT, mut_isD rfl, fun od => ?_⟩
        have exG : Ex G5 G' := (e3.trans n6.g).trans (n8.g.trans e5)
        refine s_for (G := upd GT d (.frz od (.dT gs))) (ei_valsT (R := rL rN) (kf := kSI) (xs := ps) rfl upd_same (pd_mono (fun _ _ h => ⟨h.1, lk_L lk_N (Le.lock hdT rfl) h.2⟩) pT)) nT.s.upd2 (fun ls GA HA hls nA => ?_)
        subst hls
        have ownA0 : Own H (upd GT d (.frz od (.dT gs))) (upd H' d (.frz od (.dT gs))) f (.dK us) := ⟨ownf.s, by rw [upd_ne hfd]; exact ownfT.g, by rw [upd_ne hfd]; exact ownf.h⟩
        refine ⟨fun m σ' GB HB => (Nxt G H (upd GB d (.dT gs)) (upd HB d (.dT gs)) ∧ Ex (upd GT d (.frz od (.dT gs))) GB) ∧ (∃ a7, σ' = [some v, some (.ref f), some v1, some v2, some w2, some (.ref d), a6, a7]) ∧ ∃ uf ff, Own H GB HB f (.dK uf) ∧ Pd (Ent kN rB GB) uf ff ∧ (ff.map (·.1)).Nodup ∧ (∀ p ∈ ff.map (·.1), isAns i p = true) ∧ (∀ p ∈ fs.map (·.1), p ∈ ff.map (·.1)) ∧ EndsIn (ff.map (·.1)) ((ps.map (·.2)).take m),
          ⟨⟨nT.trans (nxt_unlock hdT nT.s nA), nA.g⟩, ⟨_, rfl⟩, us, fs, ownA0.nxt nA, pd_mono (fun _ _ h => h) pu6, fnd, fans, fun p h => h, by intro l hl; simp at hl⟩, ?_, ?_⟩
        · rintro m l σ' GB HB hl eA eB ⟨⟨nB, xB⟩, ⟨a7, rfl⟩, uf, ff, ownB, puB, ndB, ansB, subB, endB⟩ w5 GC HC nC rC
          have hlm := List.mem_of_getElem? hl
          obtain ⟨⟨k0, l0⟩, hkl, rfl⟩ := List.mem_map.mp hlm
          obtain ⟨g1, g2⟩ := gok.each k0 l0 (look_of_mem gok.nd hkl)
          obtain ⟨a, r, b, r', e1, e2⟩ := two_ends g1
          have hmemS : ∀ c ∈ l0, isAns i c = true := fun c hc => by
            rw [g2] at hc
            exact (ansOf_iff.mp ((s3 c).mp (List.mem_filter.mp hc).1).1).1
          have lenB : ff.length ≤ 24 := by
            have := nd_len ndB fun p hp => mem_ansL.mpr (ansB p hp)
            rw [List.length_map] at this
            omega
          have luB := pd_len puB
          have rC : (rL rN).is GC w5 l0 := rC
          refine q_dput (R := rB) (RK := rN) (kf := kN) (x := a) (PA := fun b => b = true) key_N (ownB.nxt nC) rfl ev_bl (ev_ixL (i := 0) (ev_var rfl rC) ev_int (by rw [e1]; rfl)) nC.s (by omega) fun w6 GD HD y nD rD pD ownD => ?_
          subst pD
          have puD : Pd (Ent kN rB GD) (putK uf (kN a) w6) (put ff a true) := pd_put inj_N (pd_mono (fun _ _ h => h) puB) rD
          refine s_dput (R := rB) (RK := rN) (kf := kN) (x := b) (PA := fun b => b = true) key_N ownD rfl ev_bl (ev_ixLast (xs := r') (x := b) (by rw [← e2]; exact ev_var rfl ((rL rN).ex nD.g rC)) (ev_neg ev_int)) (nD.s.mut ownD.g) ?_ fun w7 GE HE y nE rE pE ownE => ?_
          · have h1 := pd_len puD
            rw [put_len] at h1
            split at h1 <;> omega
          · subst pE
            have puE : Pd (Ent kN rB GE) (putK (putK uf (kN a) w6) (kN b) w7) (put (put ff a true) b true) := pd_put inj_N (pd_mono (fun _ _ h => h) puD) rE
            have take1 : (ps.map (·.2)).take (m + 1) = (ps.map (·.2)).take m ++ [l0] := by rw [List.take_add_one, hl]; rfl
            have memE : ∀ c, c ∈ (put (put ff a true) b true).map (·.1) ↔ (c ∈ ff.map (·.1) ∨ c = a) ∨ c = b := fun c => by rw [mem_put_keys, mem_put_keys]
            refine ⟨GE, (eA.trans nC.g).trans (nD.g.trans nE.g), nE.s.mut ownE.g, ⟨?_, xB.trans (nC.g.trans (nD.g.trans nE.g))⟩, ⟨_, rfl⟩, _, _, ownE, puE, put_nodup (put_nodup ndB), fun c hc => ?_, fun c hc => (memE c).mpr (.inl (.inl (subB c hc))), ?_⟩
            · have m1 := (nB.trans (nxt_upd nC)).trans (nxt_upd nD)
              have m2 := m1.mut (o := .dK (putK uf (kN a) w6)) ownD.s (by rw [upd_ne hfd]; exact ownD.g)
              rw [upd_swap (Ne.symm hfd)] at m2
              have m3 := (m2.trans (nxt_upd nE)).mut (o := .dK (putK (putK uf (kN a) w6) (kN b) w7)) ownE.s (by rw [upd_ne hfd]; exact ownE.g)
              rw [upd_swap (Ne.symm hfd)] at m3
              exact m3
            · rcases (memE c).mp hc with (hc | rfl) | rfl
              · exact ansB c hc
              · exact hmemS c (by rw [e1]; exact List.mem_cons_self)
              · exact hmemS c (by rw [e2]; exact List.mem_append_right _ (List.mem_singleton.mpr rfl))
            · rw [take1]
              intro l hl a1 r1 b1 r1' f1 f2
              rcases List.mem_append.mp hl with hl | hl
              · obtain ⟨h3, h4⟩ := endB l hl a1 r1 b1 r1' f1 f2
                exact ⟨(memE _).mpr (.inl (.inl h3)), (memE _).mpr (.inl (.inl h4))⟩
              · rw [List.mem_singleton.mp hl] at f1 f2
                rw [e1] at f1
                rw [e2] at f2
                have h3 : a = a1 := (List.cons.inj f1).1
                have h4 : b = b1 := by
                  have := congrArg List.getLast? f2
                  simpa using this
                exact ⟨(memE _).mpr (.inl (.inr h3.symm)), (memE _).mpr (.inr h4.symm)⟩
        · rintro σ' GB HB eA eB ⟨⟨nF, xB⟩, ⟨a7, rfl⟩, uf, ff, ownB, puB, ndB, ansB, subB, endB⟩
          rw [List.take_length] at endB
          refine ⟨eB d _ (xB d _ upd_same), upd GB d (.dT gs), exG.trans (exT.trans (ex_unlk hdT xB)), nF.s, nF, ⟨_, _, _, _, rfl⟩, uf, ff, ⟨ownB.s, by rw [upd_ne hfd]; exact ownB.g, by rw [upd_ne hfd]; exact ownB.h⟩, pd_mono (fun _ _ h => h) puB, ndB, ansB, fun z hz p hp => (fok z hz p hp).mono subB, fun s' hs' p hp => ?_⟩
          rw [List.take_add_one, hs] at hs'
          rcases List.mem_append.mp hs' with hs' | hs'
          · exact (sok s' hs' p hp).mono subB
          · rw [List.mem_singleton.mp hs'] at hp
            exact outOk_of gok s1 hp0 s3 endB hp
    · rintro σ' G' H' e3 e4 ⟨nn2, ⟨b4, b5, b6, b7, rfl⟩, us, fs, own, pu, fnd, fans, fok, sok⟩
      rw [List.take_length] at sok
      refine ⟨G', (e1.trans n4.g).trans (n5.g.trans e3), e4, nn2, ⟨_, _, _, _, _, _, rfl⟩, us, fs, own, pu, fnd, fans, fun z hz p hp => ?_⟩
      rw [List.take_add_one, hx] at hz
      rcases List.mem_append.mp hz with hz | hz
      · exact fok z hz p hp
      · rw [List.mem_singleton.mp hz] at hp ⊢
        obtain ⟨s, h3, h4⟩ := hss.all p hp
        exact sok s h3 p h4
  · rintro σ' G' H' e1 e2 ⟨nn, ⟨a2, a3, a4, a5, a6, a7, rfl⟩, us, fs, own, pu, fnd, fans, fok⟩
    rw [List.take_length] at fok
    have lenF : fs.length ≤ 24 := by
      have := nd_len fnd fun p hp => mem_ansL.mpr (fans p hp)
      rw [List.length_map] at this
      omega
    refine s_retP (ev_sortedDN (R := rB) (ev_var rfl (rD_r (own_dict own pu))) (by omega)) (own.told e2) fun u5 G5 H5 y n5 r5 hy => q u5 G5 H5 y ((nn.tell own.s own.h own.g).trans n5) r5 ⟨fun p hp => fans p (hy.mem_iff.mp hp), fun z hz p hp => (fok z hz p hp).mono fun c hc => hy.mem_iff.mpr hc⟩)
end
end FW
/-! thinned, ring_of. -/
namespace FW
open PySem PySem.Spec PyProof.Rows L2 Hd
structure IsThin (L T : Log) : Prop where
  ex : ∃ ys : List Nat, (∀ p ∈ ys, isAns L p = true) ∧ T = onlyL L ys ∧ SameBy L (fun q => q ∈ ys) ∧ ∀ p ∈ ys, ¬ SameBy L (fun q => q ∈ ys ∧ q ≠ p)
theorem sameBy_all {L : Log} : SameBy L (fun q => q ∈ ansL L) := .inr fun x y t => bt_ans.mpr t
/-! sorted of lengths and ways -/
def wayD (z : Nat × List (Nat × Nat)) : PyData := .tuple [.int (z.1 : Int), .list (z.2.map fun p => .tuple [.int (p.1 : Int), .int (p.2 : Int)])]
theorem pairs_dp {K : PySem.W.Frag} {G H : Hp} (e : Ex G H) : ∀ {vs : List V} {xs : List (Nat × Nat)}, Pd ((rT2 rN rN).is G) vs xs → DpAll K H vs (xs.map fun p => .tuple [.int (p.1 : Int), .int (p.2 : Int)])
  | _, _, .nil => .nil
  | _, _, .cons a t => by
    obtain ⟨b, v1, v2, rfl, hb, h1, h2⟩ := a
    cases h1; cases h2
    exact .cons (.tup (SqT.of (e b _ hb)) (.cons (.int _) (.cons (.int _) .nil))) (pairs_dp e t)
theorem ways_dp {K : PySem.W.Frag} {G H : Hp} (e : Ex G H) : ∀ {vs : List V} {xs : List (Nat × List (Nat × Nat))}, Pd ((rT2 rN rWay).is G) vs xs → DpAll K H vs (xs.map wayD)
  | _, _, .nil => .nil
  | _, _, .cons a t => by
    obtain ⟨b, v1, v2, rfl, hb, h1, h2⟩ := a
    cases h1
    obtain ⟨c, us, rfl, hc, hp⟩ := h2
    exact .cons (.tup (SqT.of (e b _ hb)) (.cons (.int _) (.cons (.lst (SqL.of (e c _ hc)) (pairs_dp e hp)) .nil))) (ways_dp e t)
theorem pairs_alike : ∀ xs ys : List (Nat × Nat), PySem.W.alikeAll (xs.map fun p => .tuple [.int (p.1 : Int), .int (p.2 : Int)]) (ys.map fun p => .tuple [.int (p.1 : Int), .int (p.2 : Int)]) = true
  | [], _ => by simp [PySem.W.alikeAll]
  | _ :: _, [] => by simp [PySem.W.alikeAll]
  | x :: xs, y :: ys => by
    have ih := pairs_alike xs ys
    simp only [List.map_cons, PySem.W.alikeAll, PySem.W.alike] at ih ⊢
    rw [ih]; rfl
theorem ways_alike (x y : Nat × List (Nat × Nat)) : PySem.W.alike (wayD x) (wayD y) = true := by
  have h := pairs_alike x.2 y.2
  unfold wayD
  simp only [PySem.W.alike, PySem.W.alikeAll]
  rw [h]; rfl
theorem pairs_depth : ∀ xs : List (Nat × Nat), PyData.depthAll (xs.map fun p => .tuple [.int (p.1 : Int), .int (p.2 : Int)]) ≤ 1
  | [] => by show 0 ≤ 1; decide
  | x :: r => by
    show max 1 (PyData.depthAll (r.map fun p => .tuple [.int (p.1 : Int), .int (p.2 : Int)])) ≤ 1
    exact Nat.max_le.mpr ⟨Nat.le_refl _, pairs_depth r⟩
theorem way_depth (x : Nat × List (Nat × Nat)) : (wayD x).depth ≤ 20 := by
  have h := pairs_depth x.2
  show max 0 (max (PyData.depthAll (x.2.map fun p => .tuple [.int (p.1 : Int), .int (p.2 : Int)]) + 1) 0) + 1 ≤ 20
  have h1 : max 0 (max (PyData.depthAll (x.2.map fun p => .tuple [.int (p.1 : Int), .int (p.2 : Int)]) + 1) 0) ≤ 2 := Nat.max_le.mpr ⟨by omega, Nat.max_le.mpr ⟨by omega, by omega⟩⟩
  omega
theorem ev_sortedA {K : PySem.W.Frag} {ta : TE} {σ : L2.St} {G : Hp} {P : List (Nat × List (Nat × Nat)) → Prop} (h : EvP (rL (rT2 rN rWay)) ta σ G P) : EvP (rL (rT2 rN rWay)) (tCB (rSortedA K) (tCons ta tNil)) σ G (fun ys => ∃ xs, P xs ∧ ys.Perm xs) := ev_cb1 h fun G2 v x e r p H e2 Q q => by
  obtain ⟨a, vs, rfl, ha, hp⟩ := r
  refine ⟨a, vs, x.map wayD, rfl, SqL.of (e2 a _ ha), ways_dp e2 hp, fun d hd => ?_, fun d hd d' hd' => ?_, fun d hd => ?_, fun y hy => ?_, fun ys p' h1 hn => ?_⟩
  · obtain ⟨z, _, rfl⟩ := List.mem_map.mp hd
    exact ⟨_, _, rfl⟩
  · obtain ⟨z, _, rfl⟩ := List.mem_map.mp hd
    obtain ⟨z', _, rfl⟩ := List.mem_map.mp hd'
    exact ways_alike z z'
  · obtain ⟨z, _, rfl⟩ := List.mem_map.mp hd
    exact way_depth z
  · obtain ⟨z, _, t, v1, v2, rfl, _⟩ := pd_mem hp hy
    exact ⟨t, rfl⟩
  · have n := Nxt.new (o := .lst ys) e2 hn
    obtain ⟨zs, hz, pz⟩ := pd_perm hp h1
    exact q _ _ _ zs n ⟨p', ys, rfl, upd_same, pd_mono (fun _ _ => (rT2 rN rWay).ex n.g) pz⟩ ⟨x, p, hz⟩
theorem ev_notN {α : Type} {R : Rp α} {ta : TE} {σ : L2.St} {G : Hp} {x : Option α} (h : EvD (rO R) ta σ G x) : EvD rB (tOp (fun x y H Q => y = V.non ∧ Q (V.bl (!decide (x = V.non))) H) ta (tC .non)) σ G x.isSome := fun H e Q q => h H e _ fun v G2 H2 y n r p => by
  subst p
  refine ⟨rfl, q _ G2 H2 _ n rfl ?_⟩
  cases y with
  | none => rw [show v = .non from r]; rfl
  | some z => rw [decide_eq_false r.1]; rfl
theorem pd_all {α β : Type} {F : α → β → Prop} {xs : List α} {ys : List β} (h : Pd F xs ys) {y : β} (hy : y ∈ ys) : ∃ x ∈ xs, F x y := by
  obtain ⟨i, hi⟩ := List.mem_iff_getElem?.mp hy
  obtain ⟨x, hx, hf⟩ := pd_get h hi
  exact ⟨x, List.mem_of_getElem? hx, hf⟩
section
variable {P : Program} {w : World} {K : PySem.W.Frag} {mg : Str → Option Value} {base : Heap}

abbrev N_thinned : List Str := ["log", "places", "kept", "place", "pairs", "better", "rest", "other"]
theorem sc_thinned : FnScope N_thinned ["log"] (defScope s_thinned) := ⟨rfl, rfl, rfl, by decide +kernel, rfl, by decide +kernel, by decide +kernel⟩
theorem mk_thinned (T : Tx K mg) {sp : Sp} (len : ∀ vs H Q E, sp vs H Q E → vs.length = 1)
    (hb : ∀ (cdv : Value) (A : Around) (outer : List Env) (s : Shared) (H : Hp) (vs : List V) (Q : VK) (E : XK), Room 9 (A.deeper (envOfC "thinned" (defScope s_thinned) s.heap.objs.size (He.ga K "thinned") cdv)) → sp vs H Q E →
      ∃ t, PSs (cxOf CX0 P w K mg base N_thinned "thinned" (defScope s_thinned) (He.ga K "thinned") cdv A outer s H E).nox (defBody s_thinned) t ∧ t { nx := fun _ H' => Q .non H', rt := Q } (start N_thinned vs) H) : Cal P w K mg base 10 "thinned" sp := by
  obtain ⟨fd, F⟩ := T.fn 27 rfl
  have b : Binds K fd ["log"] [] := F.binds fun _ _ _ _ _ _ us hl => match us, hl with | [_], _ => rfl
  exact ⟨_, fd, _, F.ok sc_thinned len hb, T.glo 26 rfl, F.kp, b⟩
def sp_thinned (K : PySem.W.Frag) : Sp := mkSp (aLog K) (rLog K) (fun L y => IsThin L y)
theorem ln_thinned {K : PySem.W.Frag} : ∀ vs H Q E, sp_thinned K vs H Q E → vs.length = 1 := by
  rintro vs H Q E ⟨G, i, e, h, _⟩
  have h : (aLog K) i G vs := h
  obtain ⟨_, v, rfl, _⟩ := h; rfl
theorem ok_thinned (T : Tx K mg) : Cal P w K mg base 10 "thinned" (sp_thinned K) := mk_thinned T ln_thinned (fun cdv A outer s H vs Q E hr h => by
  have hu := hu_of hr
  have nd := sc_thinned.nd
  obtain ⟨G, i, e, ha, q⟩ := h
  refine ⟨_, pss_cons (ps_set (i := 1) nd rfl (Or.inl rfl) (pe_m00 (ok_Log_answers T) hr (pv 0)))
      (pss_cons (ps_par (i := 4) (j := 5) rfl nd rfl rfl (by decide) rfl rfl (pa_cons (pe_c (ok_ends_of T) hr (pa_cons (pv 0) pa_nil)) (pa_cons (pe_c (ok_better_by T) hr (pa_cons (pv 0) (pa_cons (pv 1) pa_nil))) pa_nil)) (by rfl))
      (pss_cons (ps_setDc (i := 2) (own := [("place", 3)]) (g := (gName 3)) (tt := tYes) rfl nd rfl rfl (sw_trueD rfl rfl rfl (by decide +kernel)) (k_iList (K := K) rfl (pv 1)) (blkOk_by (by kernel_rfl)) (fun _ _ _ _ _ => pg_name (i := 3) nd rfl (by first | exact Or.inl rfl | exact Or.inr rfl)) (fun _ _ _ _ _ => pts_nil) (fun _ _ _ _ _ => pv 3) (fun _ _ _ _ _ => pe_bl))
      (pss_cons (ps_for PassesOwn.never rfl (k_iList (K := K) rfl (pv 1)) (pg_name (i := 3) nd rfl (Or.inr rfl)) (pss_cons (ps_lock (ps_setDc (i := 6) (own := [("other", 7)]) (g := (gName 7)) rfl nd rfl rfl (sw_trueD rfl rfl rfl (by decide +kernel)) (pi_keys (pv 2)) (blkOk_by (by kernel_rfl)) (fun _ _ _ _ _ => pg_name (i := 7) nd rfl (by first | exact Or.inl rfl | exact Or.inr rfl)) (fun _ _ _ _ _ => (pts_one (pt_cmpR op_ne (pv 7) (pv 3) (nomark _)))) (fun _ _ _ _ _ => pv 7) (fun _ _ _ _ _ => pe_bl)))
      (pss_one (ps_if (pt_val (pe_c (ok_is_same_by T) hr (pa_cons (pv 4) (pa_cons (pe_p (ok_Log_item_names T) hr (pv 0)) (pa_cons (pv 5) (pa_cons (pv 6) pa_nil)))))) (pss_one (ps_set (i := 2) nd rfl (Or.inl rfl) (pv 6))) (pss_nil)))))
      (pss_one (ps_ret (pe_m (ok_Log_only T) hr (pv 0) (pa_cons (pe_callB (call_sortedDI rfl) (by rfl) (T.free 78 rfl) (by decide +kernel) (pa_cons (pv 2) pa_nil)) pa_nil))))))), ?_⟩
  obtain ⟨W, v, rfl, hv⟩ := ha
  have hl := W.elen
  have hal := ansL_len (L := i)
  refine q_asg (R := rL rN) (x := ansL i) (ev_lm0 W (ev_var rfl hv)) e fun vp G1 H1 n1 rp => ?_
  have hv1 := (rLog K).ex n1.g hv
  refine q_par (R := rL rEnd) (S := rD kS (rL rS)) (PA := fun es => IsEnds i es) (PB := fun ds => IsB i.items (RB.Bt i RB.All) ds) (ev_lc0 W (ev_var rfl hv1)) (ev_call2 (R := rLog K) (S := rL rN) (ev_var rfl hv1) (ev_var rfl rp) fun G3 v1 x1 w1 y1 e3 r1 p1 r2 p2 => ?_) n1.s fun ve vb G2 H2 es ds n2 re hes rb hB => ?_
  · subst p1 p2
    exact (mkSp_use (args := aBet K) (x1, ansL x1) ⟨W, ⟨ansL_nodup, by dsimp only; omega⟩, v1, w1, rfl, r1, r2⟩).imp fun y hy => IsB.congr hy fun _ _ _ => bt_ans
  have rp2 := (rL rN).ex n2.g rp
  refine q_asg (R := rD kN rB) (ev_dcM (R := rN) (RK := rN) (S := rB) (xs := ansL i) (ky := fun p => p) (f := fun _ => true) inj_N key_N (ei_list (ev_var rfl rp2)) (by omega) (by rw [List.map_id']; exact ansL_nodup) fun x hx G3 u e3 r => ?_) n2.s fun vk0 G3 H3 n3 rk0 => ?_
  · cases r
    exact ⟨_, tg_name, rfl, ev_var rfl rfl, ev_bl⟩
  refine q_for (ei_list (R := rN) (P := fun ys => ys = ansL i) (ev_var rfl ((rL rN).ex n3.g rp2))) n3.s (fun ys G4 H4 hy n4 => ?_)
  subst hy
  have n12 := n1.trans n2
  refine ⟨fun k σ' G' H' => Nxt G H G' H' ∧ ∃ vk kl, (∃ a b, σ' = [some v, some vp, some vk, a, some ve, some vb, b, none]) ∧ (rD kN rB).is G' vk (kl.map fun p => (p, true)) ∧ kl.Nodup ∧ (∀ p ∈ kl, p ∈ ansL i) ∧ SameBy i (fun q => q ∈ kl) ∧ ∀ p ∈ (ansL i).take k, p ∈ kl → ¬ SameBy i (fun q => q ∈ kl ∧ q ≠ p), ⟨(n12.trans n3).trans n4, vk0, ansL i, ⟨_, _, rfl⟩, (rD kN rB).ex n4.g rk0, ansL_nodup, fun p h => h, sameBy_all, by simp⟩, ?_, ?_⟩
  · rintro k x σ' G' H' hx e1 e2 ⟨nn, vk, kl, ⟨a, b, rfl⟩, rk, knd, kans, ksame, kmin⟩ w1 G5 H5 n5 rfl
    have take1 : (ansL i).take (k + 1) = (ansL i).take k ++ [x] := by rw [List.take_add_one, hx]; rfl
    have klen : kl.length ≤ 24 := by
      have := nd_len knd kans
      omega
    have rk5 := (rD kN rB).ex n5.g rk
    obtain ⟨d, kvs, rfl, hd, hp⟩ := rk5
    refine q_lockAsg (R := rD kN rB) (P := fun ys => ys = (kl.filter fun o => decide (o ≠ x)).map fun p => (p, true)) (lku_D lk_B) hd rfl (fun od => ?_) n5.s fun vr G6 H6 rs n6 rr pr => ?_
    · have hI : EvI rN (iKeys (tVar 2)) [some v, some vp, some (.ref d), some (.int (x : Int)), some ve, some vb, b, none] (upd G5 d (.frz od (.dK kvs))) (fun ys => ys = kl) := by
        have h := ei_keys (RK := rN) (kf := kN) (G := upd G5 d (.frz od (.dK kvs))) (σ := [some v, some vp, some (.ref d), some (.int (x : Int)), some ve, some vb, b, none]) (td := tVar 2) (xs := kl.map fun p => (p, true)) (fun _ _ => rfl) (ev_var (R := rV) rfl rfl) upd_same (frz_keys (d := d) hp)
        rw [keys_true] at h; exact h
      refine ev_dcF (R := rN) (RK := rN) (S := rB) (ky := fun p => p) (f := fun _ => true) (p := fun o => decide (o ≠ x)) inj_N key_N hI (by omega) (by rw [List.map_id']; exact knd) fun y hy G6 u e6 r => ?_
      cases r
      refine ⟨_, tg_name, rfl, et_test (ev_val (ev_neI (ev_N (ev_var rfl rfl)) (ev_N (ev_var rfl rfl))) ?_), fun _ => ⟨ev_var rfl rfl, ev_bl⟩⟩
      rw [← decide_not]
      exact decide_eq_decide.mpr (by omega)
    · subst pr
      have g26 : Ex G2 G6 := (n3.g.trans n4.g).trans (e1.trans (n5.g.trans n6.g))
      have key : ∀ b2 : Bool, (b2 = true ↔ SameBy i (fun q => q ∈ kl.filter fun o => decide (o ≠ x))) → EvT (tB (tCall (sp_is_same_by K) [] E0 (tCons (tVar 4) (tCons (tProp (cLog K) (sp_Log_item_names K) [] E0 (tVar 0)) (tCons (tVar 5) (tCons (tVar 6) tNil)))))) [some v, some vp, some (.ref d), some (.int (x : Int)), some ve, some vb, some vr, none] G6 b2 := fun b2 hb => by
        refine et_B ((ev_call4 (R := rL rEnd) (S := rL rS) (T := rD kS (rL rS)) (U := rD kN rB) (ev_var rfl ((rL rEnd).ex g26 re)) (ev_lp W (ev_var rfl ((rLog K).ex ((nn.g.trans n5.g).trans n6.g) hv)) "item_names" (by intros; rfl)) (ev_var rfl ((rD kS (rL rS)).ex g26 rb)) (ev_var rfl rr) fun G7 a1 b1 a2 b2 a3 b3 a4 b4 e7 q1 p1 q2 p2 q3 p3 q4 p4 => ?_ : EvP rB _ _ _ (fun y => (y = true ↔ SameBy i (fun q => q ∈ kl.filter fun o => decide (o ≠ x))))).imp fun y hy => ?_)
        · subst p1 p3 p4
          have p2 : b2 = i.items := p2
          subst p2
          exact (mkSp_use (args := aSam) (b1, i.items, (RB.Bt i RB.All, b3), kl.filter fun o => decide (o ≠ x)) ⟨⟨hes.len, W.ind, W.bok hB, hes.inItems W⟩, a1, a2, a3, a4, rfl, q1, q2, q3, q4⟩).imp fun y hy => Iff.trans hy (sameBy_iff hes)
        · cases y <;> cases b2 <;> simp_all
      have memF : ∀ q, q ∈ (kl.filter fun o => decide (o ≠ x)) ↔ q ∈ kl ∧ q ≠ x := fun q => by rw [List.mem_filter, decide_eq_true_eq]
      open Classical in
      refine s_if (b := decide (SameBy i (fun q => q ∈ kl.filter fun o => decide (o ≠ x)))) (key _ decide_eq_true_iff) n6.s (fun hb G7 H7 n7 => ?_) (fun hb G7 H7 n7 => ?_)
      · have hb := of_decide_eq_true hb
        refine s_asg (R := rD kN rB) (ev_var rfl ((rD kN rB).ex n7.g rr)) n7.s fun v8 G8 H8 n8 r8 => ?_
        refine ⟨G8, (e1.trans n5.g).trans (n6.g.trans (n7.g.trans n8.g)), n8.s, (((nn.trans n5).trans n6).trans n7).trans n8, v8, _, ⟨_, _, rfl⟩, r8, knd.filter _, fun p hp => kans p ((memF p).mp hp).1, hb, fun p hp hk hs => ?_⟩
        have hk2 := (memF p).mp hk
        rw [take1] at hp
        rcases List.mem_append.mp hp with hp | hp
        · exact kmin p hp hk2.1 (hs.mono fun q hq => ⟨((memF q).mp hq.1).1, hq.2⟩)
        · exact hk2.2 (List.mem_singleton.mp hp)
      · have hb := of_decide_eq_false hb
        refine ⟨G7, (e1.trans n5.g).trans (n6.g.trans n7.g), n7.s, ((nn.trans n5).trans n6).trans n7, .ref d, kl, ⟨_, _, rfl⟩, (rD kN rB).ex ((n5.g.trans n6.g).trans n7.g) rk, knd, kans, ksame, fun p hp hk hs => ?_⟩
        rw [take1] at hp
        rcases List.mem_append.mp hp with hp | hp
        · exact kmin p hp hk hs
        · rw [List.mem_singleton.mp hp] at hs
          exact hb (hs.mono fun q hq => (memF q).mpr hq)
  · rintro σ' G' H' e1 e2 ⟨nn, vk, kl, ⟨a, b, rfl⟩, rk, knd, kans, ksame, kmin⟩
    rw [List.take_length] at kmin
    have klen : kl.length ≤ 24 := by
      have := nd_len knd kans
      omega
    refine s_retP (R := rLog K) (PA := fun T => ∃ ys : List Nat, ys.Perm kl ∧ T = onlyL i ys) (ev_meth1 (R := rLog K) (S := rL rN) (log_ins) (ev_var rfl ((rLog K).ex nn.g hv)) (ev_sortedDN (R := rB) (ev_var rfl (rD_r rk)) (by rw [List.length_map]; omega)) fun G3 v1 x1 w1 y1 e3 r1 p1 r2 p2 => ?_) e2 fun v5 G5 H5 y n5 r5 h5 => q v5 G5 H5 y (nn.trans n5) r5 ?_
    · subst p1
      rw [keys_true] at p2
      exact (mkSp_use (args := aOnl K) (x1, y1) ⟨⟨W, fun p hp => mem_ansL.mp (kans p (p2.mem_iff.mp hp))⟩, v1, w1, rfl, r1, r2⟩).imp fun z hz => ⟨y1, p2, hz⟩
    · obtain ⟨ys, hp, rfl⟩ := h5
      exact ⟨ys, fun p h => mem_ansL.mp (kans p (hp.mem_iff.mp h)), rfl, ksame.mono fun q h => hp.mem_iff.mpr h, fun p h hs => kmin p (kans p (hp.mem_iff.mp h)) (hp.mem_iff.mp h) (hs.mono fun q hq => ⟨hp.mem_iff.mp hq.1, hq.2⟩)⟩)
abbrev N_ring_of : List Str := ["log", "ends", "rings", "found", "item", "ring"]
theorem sc_ring_of : FnScope N_ring_of ["log"] (defScope s_ring_of) := ⟨rfl, rfl, rfl, by decide +kernel, rfl, by decide +kernel, by decide +kernel⟩
theorem mk_ring_of (T : Tx K mg) {sp : Sp} (len : ∀ vs H Q E, sp vs H Q E → vs.length = 1)
    (hb : ∀ (cdv : Value) (A : Around) (outer : List Env) (s : Shared) (H : Hp) (vs : List V) (Q : VK) (E : XK), Room 8 (A.deeper (envOfC "ring_of" (defScope s_ring_of) s.heap.objs.size (He.ga K "ring_of") cdv)) → sp vs H Q E →
      ∃ t, PSs (cxOf CX0 P w K mg base N_ring_of "ring_of" (defScope s_ring_of) (He.ga K "ring_of") cdv A outer s H E).nox (defBody s_ring_of) t ∧ t { nx := fun _ H' => Q .non H', rt := Q } (start N_ring_of vs) H) : Cal P w K mg base 9 "ring_of" sp := by
  obtain ⟨fd, F⟩ := T.fn 14 rfl
  have b : Binds K fd ["log"] [] := F.binds fun _ _ _ _ _ _ us hl => match us, hl with | [_], _ => rfl
  exact ⟨_, fd, _, F.ok sc_ring_of len hb, T.glo 13 rfl, F.kp, b⟩
def sp_ring_of (K : PySem.W.Frag) : Sp := mkSp (aLog K) (rO rWay) (fun L y => (y = none ↔ ¬ ∃ x, RB.Bt L RB.All x x))
theorem ln_ring_of {K : PySem.W.Frag} : ∀ vs H Q E, sp_ring_of K vs H Q E → vs.length = 1 := by
  rintro vs H Q E ⟨G, i, e, h, _⟩
  have h : (aLog K) i G vs := h
  obtain ⟨_, v, rfl, _⟩ := h; rfl
theorem ok_ring_of (T : Tx K mg) : Cal P w K mg base 9 "ring_of" (sp_ring_of K) := mk_ring_of T ln_ring_of (fun cdv A outer s H vs Q E hr h => by
  have hu := hu_of hr
  have nd := sc_ring_of.nd
  obtain ⟨G, i, e, ha, q⟩ := h
  refine ⟨_, pss_cons (ps_set (i := 1) nd rfl (Or.inr rfl) (pe_c (ok_ends_of T) hr (pa_cons (pv 0) pa_nil)))
      (pss_cons (ps_setLc (i := 2) (own := [("item", 4)]) (g := (gName 4)) (tt := tYes) rfl nd rfl rfl (sw_true rfl rfl rfl (by decide +kernel)) (k_iList (K := K) rfl (pe_p (ok_Log_item_names T) hr (pv 0))) (blkOk_by (by kernel_rfl)) (fun _ _ _ _ _ => pg_name (i := 4) nd rfl (by first | exact Or.inl rfl | exact Or.inr rfl)) (fun _ _ _ _ _ => pts_nil) (fun _ _ _ _ _ => pe_c (ok_first_way T) hr (pa_cons (pv 1) (pa_cons (pv 4) (pa_cons (pv 4) pa_nil)))))
      (pss_cons (ps_set (i := 3) nd rfl (Or.inl rfl) (pe_sortedRings hr (pe_lc (own := [("ring", 5)]) (g := (gName 5)) rfl nd (k_iList (K := K) rfl (pv 2)) (blkOk_by (by kernel_rfl)) (fun _ _ _ _ _ => pg_name (i := 5) nd rfl (by first | exact Or.inl rfl | exact Or.inr rfl)) (fun _ _ _ _ _ => (pts_one (pt_cmpR op_notN (pv 5) pe_non (nomark _)))) (fun _ _ _ _ _ => pe_tup (pa_cons (pe_callB (k_len (K := K) rfl) (by rfl) (T.free 74 rfl) (by decide +kernel) (pa_cons (pv 5) pa_nil)) (pa_cons (pv 5) pa_nil)))) (T.free 78 rfl)))
      (pss_one (ps_ret (pe_ifExp (k_truth (K := K) rfl (pv 3) (by intro _; rfl)) (pe_ix (k_ixT (K := K) rfl) (pe_ix (k_ixL (K := K) rfl) (pv 3) (pe_int) (fun _ _ => rfl)) (pe_int) (fun _ _ => rfl)) (pe_non)))))), ?_⟩
  obtain ⟨W, v, rfl, hv⟩ := ha
  have h6 := W.ilen
  refine q_asgP (R := rL rEnd) (PA := fun es => IsEnds i es) (ev_lc0 W (ev_var rfl hv)) e fun ve G1 H1 es n1 re hes => ?_
  have hv1 := (rLog K).ex n1.g hv
  refine q_asgP (R := rL (rO rWay)) (PA := fun rs => Pd (fun x y => IsWay (EdR es) x x y) i.items rs) ((ev_lc (R := rS) (S := rO rWay) (PX := fun xs => xs = i.items) (p := fun _ => true) (F := fun x y => IsWay (EdR es) x x y) (ei_list (ev_lp W (ev_var rfl hv1) "item_names" (by intros; rfl))) fun xs hxs => ?_).imp fun ys hy => ?_) n1.s fun vr G2 H2 rs n2 rr hrs => ?_
  · subst hxs
    refine ⟨by omega, fun x hx G2 u e2 r => ?_⟩
    cases r
    refine ⟨_, tg_name, rfl, et_yes, fun _ => ev_call3 (R := rL rEnd) (S := rS) (T := rS) (ev_var rfl ((rL rEnd).ex e2 re)) (ev_var rfl rfl) (ev_var rfl rfl) fun G3 v1 x1 w1 y1 w2 y2 e3 r1 p1 r2 p2 r3 p3 => ?_⟩
    subst p1 p2 p3
    cases r2; cases r3
    exact mkSp_use (args := aWay) (x1, y2, y2) ⟨hes.len, v1, rfl, r1⟩
  · obtain ⟨xs, rfl, h⟩ := hy
    rwa [List.filter_eq_self.mpr (fun _ _ => rfl)] at h
  have hrl := pd_len hrs
  refine q_asgP (R := rL (rT2 rN rWay)) (PA := fun zs => ∃ xs, Pd (fun (y : Option (List (Nat × Nat))) z => y = some z.2) (rs.filter fun y => y.isSome) xs ∧ zs.Perm xs) (ev_sortedA ((ev_lc (R := rO rWay) (S := rT2 rN rWay) (PX := fun ys => ys = rs) (p := fun y => y.isSome) (F := fun (y : Option (List (Nat × Nat))) z => y = some z.2) (ei_list (ev_var rfl rr)) fun ys hys => ?_).imp fun zs hz => ?_)) n2.s fun vf G3 H3 zs n3 rf hzs => ?_
  · subst hys
    refine ⟨by omega, fun y hy G3 u e3 r => ⟨_, tg_name, rfl, et_test (ev_notN (ev_var rfl r)), fun hs => ?_⟩⟩
    cases y with
    | none => cases hs
    | some w => exact (ev_tup2 (R := rN) (S := rWay) (PA := fun n => n = w.length) (PB := fun z => z = w) (ev_len (ev_var rfl r.2)) (ev_var rfl r.2)).imp fun z hz => by rw [hz.2]
  · obtain ⟨_, rfl, h⟩ := hz
    exact h
  obtain ⟨xs, hxs, hperm⟩ := hzs
  have n123 := (n1.trans n2).trans n3
  have hE : ∀ x z, EdR es x z ↔ RB.LkR i RB.All x z := fun x z => by
    constructor
    · rintro ⟨⟨a, c⟩, h⟩
      exact ⟨a, c, trivial, trivial, (hes.mem a c x z).mp h⟩
    · rintro ⟨a, c, _, _, h⟩
      exact ⟨(a, c), (hes.mem a c x z).mpr h⟩
  have hlen := (hperm.length_eq).trans (pd_len hxs).symm
  have none_iff : zs = [] ↔ ¬ ∃ x, RB.Bt i RB.All x x := by
    constructor
    · rintro rfl ⟨x, hx⟩
      have hx1 := (W.bt hx).1
      obtain ⟨y, hy, hw⟩ := pd_mem hrs hx1
      have hno : y ≠ none := fun c => (hw.no.mp c) (RB.tg_iff hE x x |>.mpr hx)
      cases y with
      | none => exact hno rfl
      | some w =>
        have := List.length_pos_of_mem (List.mem_filter.mpr ⟨hy, (rfl : (some w).isSome = true)⟩)
        rw [← hlen] at this
        cases this
    · intro h
      cases zs with
      | nil => rfl
      | cons z r =>
        have hpos : 0 < (rs.filter fun y => y.isSome).length := by rw [← hlen, List.length_cons]; omega
        obtain ⟨y, hy⟩ := List.exists_mem_of_length_pos hpos
        obtain ⟨hy1, hy2⟩ := List.mem_filter.mp hy
        obtain ⟨x, _, hw⟩ := pd_all hrs hy1
        refine absurd ⟨x, ?_⟩ h
        have : ¬ (y = none) := fun c => by rw [c] at hy2; cases hy2
        rw [hw.no] at this
        exact RB.tg_iff hE x x |>.mp (Classical.byContradiction this)
  refine s_retP (R := rO rWay) (PA := fun y => (y = none ↔ ¬ ∃ x, RB.Bt i RB.All x x)) (ev_if (et_list (R := rT2 rN rWay) (ev_var rfl rf)) (fun hb => ?_) (fun hb => ?_)) n3.s fun v5 G5 H5 y n5 r5 h5 => q v5 G5 H5 y (n123.trans n5) r5 h5
  · cases zs with
    | nil => cases hb
    | cons z r =>
      refine EvP.as (ev_ixT2_1 (R := rN) (S := rWay) (ev_ixL (i := 0) (ev_var rfl rf) ev_int rfl)) fun G2 v x e r p => ⟨some x, ⟨way_nn r, r⟩, ⟨nofun, fun h => ?_⟩⟩
      have := none_iff.mpr h
      cases this
  · cases zs with
    | cons z r => cases hb
    | nil => exact (ev_c (R := rO rWay) (x := none) rfl).imp fun y hy => by subst hy; exact ⟨fun _ => none_iff.mp rfl, fun _ => rfl⟩)
end
end FW
/-! least_links, greatest_below, bars_of, Explanation. -/
namespace FW
open PySem PySem.Spec PyProof.Rows L2 Hd
section
variable {κ α β γ : Type} [DecidableEq κ] {R : Rp α} {S : Rp β} {RK : Rp κ} {σ : L2.St} {Hs G H : Hp} {te ta td tk tv : TE} {K : PySem.W.Frag} {D : Ends} {d : Addr}
/-- d.setdefault(k, v), a statement; d of ours -/
theorem s_dset {kf : κ → List Key} {us : List (List Key × V)} {xs : List (κ × α)} {i : Nat} {k : κ} {x : α} (inj : ∀ a b, kf a = kf b → a = b) (hkr : KeyT RK kf) (own : Own Hs G H d (.dT us)) (hp : Pd (Ent kf R G) us xs) (hi : σ[i]? = some (some (.ref d))) (hk : EvD RK tk σ G k) (hv : EvD R tv σ G x) (e : Ex G H) (hl : us.length < 100000)
    (k1 : (look xs k).isSome = true → ∀ G2 H2, Nxt G H G2 H2 → Own Hs G2 H2 d (.dT us) → D.nx σ H2)
    (k2 : look xs k = none → ∀ v G2 H2, Nxt G H G2 H2 → R.is G2 v x → Own Hs G2 (upd H2 d (.dT (putK us (kf k) v))) d (.dT (putK us (kf k) v)) → D.nx σ (upd H2 d (.dT (putK us (kf k) v)))) :
    tDrop (tDSetT (tVar i) tk tv) D σ H :=
  ⟨.ref d, hi, d, rfl, .inr ⟨us, .inl own.h⟩, hk H e _ fun v1 G1 H1 y1 n1 r1 p1 => hv.mono n1.g H1 n1.s _ fun v2 G2 H2 y2 n2 r2 p2 => by
    subst p1 p2
    obtain ⟨b, rfl, hb⟩ := hkr _ _ _ r1
    have own2 := (own.nxt n1).nxt n2
    have nn := n1.trans n2
    refine ⟨us, kf y1, b, own2.h, rfl, n2.s b _ (n2.g b _ hb), Nat.lt_of_lt_of_le hl (by decide), fun w hw => ?_, fun hw => ?_⟩
    · refine k1 ?_ G2 H2 nn own2
      rcases pd_look inj y1 hp with ⟨_, z⟩ | ⟨y, u, z, _, _⟩
      · rw [hw] at z; cases z
      · rw [z]; rfl
    · refine k2 ?_ v2 G2 H2 nn r2 own2.set
      rcases pd_look inj y1 hp with ⟨z, _⟩ | ⟨y, u, _, z, _⟩
      · exact z
      · rw [hw] at z; cases z⟩
theorem ent_snd {τ : Type} {kf : κ → τ} {kvs : List (τ × V)} {xs : List (κ × α)} (hp : Pd (Ent kf R G) kvs xs) : Pd (R.is G) (kvs.map (·.2)) (xs.map (·.2)) := by
  induction hp with
  | nil => exact .nil
  | cons a _ ih => exact .cons a.2 ih
/-- sorted(d.values()) -/
theorem ev_sortedVals {kf : κ → List Key} {xs : List (κ × (Nat × Nat))} (h : EvD (rDT kf (rT2 rN rN)) td σ G xs) : EvP (rL (rT2 rN rN)) (tSortedVals td) σ G (fun ys => ys.Perm (xs.map (·.2))) := fun H e Q q => h H e _ fun v G2 H2 y n r p => by
  subst p
  obtain ⟨a, kvs, rfl, ha, hp⟩ := r
  have hv : Pd ((rT2 rN rN).is G2) (kvs.map (·.2)) (y.map (·.2)) := ent_snd hp
  refine ⟨a, kvs, rfl, n.s a _ ha, fun kv hkv => ?_, fun ys p h1 hn => ?_⟩
  · obtain ⟨z, _, t, v1, v2, e1, ht, h1, h2⟩ := pd_mem hv (List.mem_map.mpr ⟨kv, hkv, rfl⟩)
    cases h1; cases h2
    exact ⟨t, _, _, e1, n.s t _ ht⟩
  · obtain ⟨zs, hz, pz⟩ := pd_perm hv h1
    have n2 := Nxt.new (o := .lst ys) n.s hn
    exact q _ _ _ zs (n.trans n2) ⟨p, ys, rfl, upd_same, pd_mono (fun _ _ => (rT2 rN rN).ex n2.g) pz⟩ hz
/-- dict(d) -/
theorem ev_dict {kf : κ → Key} {xs : List (κ × α)} (h : EvD (rDr kf R) ta σ G xs) : EvD (rD kf R) (tCB (fun xs H Q => ∃ (a : Addr) (kvs : List (Key × V)), xs = [.ref a] ∧ Rd H a (.dK kvs) ∧ ∀ p, H p = none → Q (.ref p) (upd H p (.dK kvs))) (tCons ta tNil)) σ G xs := ev_cb1 h fun G2 v x e r p H e2 Q q => by
  subst p
  obtain ⟨a, kvs, rfl, ha, hp⟩ := r
  refine ⟨a, kvs, rfl, e2.rd ha, fun l hl => ?_⟩
  have n := Nxt.new (o := .dK kvs) e2 hl
  exact q _ _ _ x n ⟨l, kvs, rfl, upd_same, ent_ex n.g hp⟩ rfl
theorem ev_lockU {P : α → Prop} {o : HO} (k1 : LkU R) (hd : G d = some o) (hu : isD o = true) (h : ∀ od, EvP R te σ (upd G d (.frz od o)) P) : EvP R (tLockE te) σ G P := fun H e Q q =>
  ⟨d, o, e d o hd, mut_isD hu, fun od => h od _ e.upd2 _ fun v G2 H2 x n r p => by
    have h1 : H2 d = some (.frz od o) := n.h d _ upd_same
    have h2 : G2 d = some (.frz od o) := n.g d _ upd_same
    exact ⟨h1, q v _ _ x (nxt_unlock hd e n) (k1 h2 hu r) p⟩⟩
/-- the items of a locked dict -/
theorem ei_items {kf : κ → Key} {xs : List (κ × α)} {od : Obj} {kvs : List (Key × V)} {i : Nat} (hk : ∀ G k, RK.is G (kV (kf k)) k) (hi : σ[i]? = some (some (.ref d))) (hd : G d = some (.frz od (.dK kvs))) (hp : Pd (Ent kf R G) kvs xs) : EvI (rT2 RK R) (iItems (tVar i)) σ G (fun ys => ys = xs) := fun H e Rr q =>
  ⟨.ref d, hi, d, od, kvs, rfl, e d _ hd, q _ G H _ (Nxt.refl e) rfl ⟨fun i H e2 hi => ⟨e2 d _ hd, by rw [pd_len hp]; exact hi⟩, fun i y hy H3 G3 e3 e4 => by
    obtain ⟨u, hu, ru⟩ := pd_get hp hy
    refine ⟨⟨e4 d _ (e3 d _ hd), (List.getElem?_eq_some_iff.mp hu).1⟩, fun v H' hv => ?_⟩
    obtain ⟨T, k, w, hkv, rfl, hT, rfl⟩ := hv
    rw [hu] at hkv; cases hkv
    have n2 := Nxt.new (o := .tup [kV k, w]) e4 hT
    refine ⟨_, n2, T, _, _, rfl, upd_same, ?_, R.ex (e3.trans n2.g) ru.2⟩
    have h1 : k = kf y.1 := ru.1
    rw [h1]; exact hk _ _⟩⟩
end
def pairD (p : Str × Str) : PyData := .tuple [.str p.1, .str p.2]
theorem pairs_dpS {K : PySem.W.Frag} {G H : Hp} (e : Ex G H) : ∀ {vs : List V} {xs : List (Str × Str)}, Pd ((rT2 rS rS).is G) vs xs → DpAll K H vs (xs.map pairD)
  | _, _, .nil => .nil
  | _, _, .cons a t => by
    obtain ⟨b, v1, v2, rfl, hb, h1, h2⟩ := a
    cases h1; cases h2
    exact .cons (.tup (SqT.of (e b _ hb)) (.cons (.str _) (.cons (.str _) .nil))) (pairs_dpS e t)
theorem pair_shaped {p : Str × Str} (h1 : NameOk p.1) (h2 : NameOk p.2) : SeqAt.shaped (pairD p) = true := by
  show (((PyData.strOk p.1 && (PyData.strOk p.2 && true))) && _) = true
  rw [strOk_of h1, strOk_of h2]
  rfl
theorem pairs_lay : ∀ xs : List (Str × Str), (∀ p ∈ xs, NameOk p.1 ∧ NameOk p.2) → PyData.canLayAll0 (xs.map pairD) = true
  | [], _ => rfl
  | x :: r, h => by
    show ((PyData.strOk x.1 && (PyData.strOk x.2 && true)) && PyData.canLayAll0 (r.map pairD)) = true
    have := h x List.mem_cons_self
    rw [strOk_of this.1, strOk_of this.2, pairs_lay r fun y hy => h y (List.mem_cons_of_mem _ hy)]; rfl
theorem pairs_depthS : ∀ xs : List (Str × Str), PyData.depthAll (xs.map pairD) ≤ 1
  | [] => by show 0 ≤ 1; decide
  | x :: r => by
    show max 1 (PyData.depthAll (r.map pairD)) ≤ 1
    exact Nat.max_le.mpr ⟨Nat.le_refl _, pairs_depthS r⟩
theorem pairs_shaped {xs : List (Str × Str)} (h : ∀ p ∈ xs, NameOk p.1 ∧ NameOk p.2) : SeqAt.shaped (.list (xs.map pairD)) = true := by
  show (PyData.canLayAll0 (xs.map pairD) && decide (PyData.depthAll (xs.map pairD) + 1 ≤ 64)) = true
  rw [pairs_lay xs h, Bool.true_and]
  have := pairs_depthS xs
  exact decide_eq_true (by omega)
theorem pairs_any {p : Str × Str} : ∀ xs : List (Str × Str), ((xs.map pairD).any fun z => PyData.eqv z (pairD p)) = decide (p ∈ xs)
  | [] => rfl
  | x :: r => by
    rw [List.map_cons, List.any_cons, pairs_any r]
    show ((x.1 == p.1 && (x.2 == p.2 && true)) || decide (p ∈ r)) = decide (p ∈ x :: r)
    rw [Bool.and_true]
    by_cases h : x = p
    · subst h; simp
    · have h1 : (x.1 == p.1 && x.2 == p.2) = false := by
        cases c : (x.1 == p.1 && x.2 == p.2) with
        | false => rfl
        | true =>
          rw [Bool.and_eq_true, beq_iff_eq, beq_iff_eq] at c
          exact absurd (Prod.ext c.1 c.2) h
      rw [h1, Bool.false_or]
      refine decide_eq_decide.mpr ?_
      rw [List.mem_cons]
      exact ⟨.inr, fun c => c.elim (fun c => absurd c.symm h) id⟩
structure IsLeast (L : Log) (y : List (Nat × Nat)) : Prop where
  ans : ∀ p q, (p, q) ∈ y → isAns L p = true ∧ isAns L q = true
  all : ∀ a b, Cov (RB.Bt L RB.All) a b → ∃ p q, (p, q) ∈ y ∧ RB.Link L p q a b
  len : y.length ≤ 36
/-- in a finite order without rings a cover is a link -/
theorem tg_cov {r : Str → Str → Prop} {a b : Str} (h : Cov (Relation.TransGen r) a b) : r a b := by
  rcases RB.tg_head h.1 with h1 | ⟨z, h1, h2⟩
  · exact h1
  · exact absurd ⟨z, .single h1, h2⟩ h.2
/-- p's turn: what stands ahead of it -/
def Ahead (L : Log) (p a : Nat) : Prop := (RB.AnsOf L (jgOf L p) a ∧ RB.Same L (jgOf L p) p a) ∧ ahd L p a = true
abbrev Qual := List (Str × Int)
/-- the greatest quality of the answers at pl below grade g -/
structure IsGb (L : Log) (qs : Qual) (pl : List Nat) (g : Int) (y : Option Int) : Prop where
  no : y = none → ∀ a ∈ pl, ¬ grOf L a < g
  yes : ∀ m, y = some m → (∃ a ∈ pl, grOf L a < g ∧ look qs (itOf L a) = some m) ∧ ∀ a ∈ pl, grOf L a < g → ∀ n, look qs (itOf L a) = some n → n ≤ m
structure IsBar (L : Log) (qs : Qual) (p : Nat) (g b : Int) : Prop where
  or : (b = 0 ∧ ∀ a, Ahead L p a → ¬ grOf L a < g) ∨ ∃ m, b = m + 1 ∧ (∃ a, Ahead L p a ∧ grOf L a < g ∧ look qs (itOf L a) = some m) ∧ ∀ a, Ahead L p a → grOf L a < g → ∀ n, look qs (itOf L a) = some n → n ≤ m
structure IsRow (L : Log) (qs : Qual) (p : Nat) (y : List Int) : Prop where
  len : y.length = L.grades.toNat
  bar : ∀ (k : Nat) (b : Int), y[k]? = some b → IsBar L qs p ((k : Int) + 1) b
abbrev Covers (L : Log) (qs : Qual) : Prop := ∀ x ∈ L.items, look qs x ≠ none
abbrev aGb (K : PySem.W.Frag) : Log × Qual × List Nat × Int → Hp → List V → Prop := fun i G vs => (WfL i.1 ∧ Covers i.1 i.2.1 ∧ (∀ p ∈ i.2.2.1, isAns i.1 p = true) ∧ i.2.2.1.length ≤ 24) ∧ ∃ v u w, vs = [v, u, w, .int i.2.2.2] ∧ (rLog K).is G v i.1 ∧ (rD kS FW.rI).is G u i.2.1 ∧ (rL rN).is G w i.2.2.1
abbrev aBar (K : PySem.W.Frag) : Log × Qual × Nat → Hp → List V → Prop := fun i G vs => (WfL i.1 ∧ Covers i.1 i.2.1 ∧ isAns i.1 i.2.2 = true) ∧ ∃ v u, vs = [v, u, .int (i.2.2 : Int)] ∧ (rLog K).is G v i.1 ∧ (rD kS FW.rI).is G u i.2.1
/-! explanations -/
abbrev cExp (K : PySem.W.Frag) : Addr := He.ga K "Explanation"
abbrev Expl := Qual × List (Nat × List Int)
def rExp (K : PySem.W.Frag) : Rp Expl := ⟨fun G v x => ∃ a dx v1 v2, v = .ref a ∧ G a = some (.ins (cExp K) dx [("qualities", v1), ("bars", v2)]) ∧ (rD kS FW.rI).is G v1 x.1 ∧ (rD kN (rL FW.rI)).is G v2 x.2, fun e h => by
  obtain ⟨a, dx, v1, v2, h1, h2, h3, h4⟩ := h
  exact ⟨a, dx, v1, v2, h1, e _ _ h2, (rD kS FW.rI).ex e h3, (rD kN (rL FW.rI)).ex e h4⟩⟩
section
variable {P : Program} {w : World} {K : PySem.W.Frag} {mg : Str → Option Value} {base : Heap}

abbrev N_least_links : List Str := ["log", "covers", "first", "link", "begin", "end"]
theorem sc_least_links : FnScope N_least_links ["log"] (defScope s_least_links) := ⟨rfl, rfl, rfl, by decide +kernel, rfl, by decide +kernel, by decide +kernel⟩
theorem mk_least_links (T : Tx K mg) {sp : Sp} (len : ∀ vs H Q E, sp vs H Q E → vs.length = 1)
    (hb : ∀ (cdv : Value) (A : Around) (outer : List Env) (s : Shared) (H : Hp) (vs : List V) (Q : VK) (E : XK), Room 10 (A.deeper (envOfC "least_links" (defScope s_least_links) s.heap.objs.size (He.ga K "least_links") cdv)) → sp vs H Q E →
      ∃ t, PSs (cxOf CX0 P w K mg base N_least_links "least_links" (defScope s_least_links) (He.ga K "least_links") cdv A outer s H E).nox (defBody s_least_links) t ∧ t { nx := fun _ H' => Q .non H', rt := Q } (start N_least_links vs) H) : Cal P w K mg base 11 "least_links" sp := by
  obtain ⟨fd, F⟩ := T.fn 12 rfl
  have b : Binds K fd ["log"] [] := F.binds fun _ _ _ _ _ _ us hl => match us, hl with | [_], _ => rfl
  exact ⟨_, fd, _, F.ok sc_least_links len hb, T.glo 12 rfl, F.kp, b⟩
def sp_least_links (K : PySem.W.Frag) : Sp := mkSp (aLogR K) (rL (rT2 rN rN)) (fun L y => IsLeast L y)
theorem ln_least_links {K : PySem.W.Frag} : ∀ vs H Q E, sp_least_links K vs H Q E → vs.length = 1 := by
  rintro vs H Q E ⟨G, i, e, h, _⟩
  have h : (aLogR K) i G vs := h
  obtain ⟨_, _, v, rfl, _⟩ := h; rfl
theorem ok_least_links (T : Tx K mg) : Cal P w K mg base 11 "least_links" (sp_least_links K) := mk_least_links T ln_least_links (fun cdv A outer s H vs Q E hr h => by
  have hu := hu_of hr
  have nd := sc_least_links.nd
  obtain ⟨G, i, e, ha, q⟩ := h
  refine ⟨_, pss_cons (ps_set (i := 1) nd rfl (Or.inl rfl) (pe_c (ok_covers_of T) hr (pa_cons (pv 0) pa_nil)))
      (pss_cons (ps_set (i := 2) nd rfl (Or.inl rfl) (pe_dnewT))
      (pss_cons (ps_for PassesOwn.never rfl (k_iList (K := K) rfl (pe_c (ok_ends_of T) hr (pa_cons (pv 0) pa_nil))) (pg_tup rfl (pgs_cons (pg_name (i := 3) nd rfl (Or.inl rfl)) (pgs_cons (pg_name (i := 4) nd rfl (Or.inl rfl)) (pgs_cons (pg_name (i := 5) nd rfl (Or.inl rfl)) pgs_nil)))) (pss_one (ps_if (pt_cmpR (k_inD (K := K) rfl (hu65 hr)) (pe_tup (pa_cons (pv 4) (pa_cons (pv 5) pa_nil))) (pv 1) rfl) (pss_one (ps_expr (pe_dsetdT hu (pv 2) (pe_tup (pa_cons (pv 4) (pa_cons (pv 5) pa_nil))) (pv 3) pe_m2g))) (pss_nil))))
      (pss_one (ps_ret (pe_sortedVals hr (pv 2) (T.free 78 rfl)))))), ?_⟩
  obtain ⟨W, hno, v, rfl, hv⟩ := ha
  refine q_asgP (R := rL (rT2 rS rS)) (PA := fun y => IsCov (RB.Bt i RB.All) y) (ev_call1 (R := rLog K) (ev_var rfl hv) fun G3 v1 x1 e3 r1 p1 => ?_) e fun vc G1 H1 cs n1 rc hcs => ?_
  · subst p1
    exact mkSp_use (args := aLogR K) x1 ⟨W, hno, v1, rfl, r1⟩
  have hv1 := (rLog K).ex n1.g hv
  have hnm : ∀ p ∈ cs, NameOk p.1 ∧ NameOk p.2 := fun p hp => by
    have h := (hcs.mem p.1 p.2).mp hp
    have := W.bt h.1
    exact ⟨W.iname _ this.1, W.iname _ this.2⟩
  refine q_newT n1.s fun d H2 n2 own2 => ?_
  refine q_for (ei_list (R := rEnd) (P := fun y => IsEnds i y) (ev_lc0 W (ev_var rfl ((rLog K).ex n2.g hv1)))) n2.s (fun es G3 H3 hes n3 => ?_)
  refine ⟨fun k σ' G' H' => Nxt G H G' H' ∧ (∃ a3 a4 a5, σ' = [some v, some vc, some (.ref d), a3, a4, a5]) ∧ ∃ us fs, Own H1 G' H' d (.dT us) ∧ Pd (Ent kSS (rT2 rN rN) G') us fs ∧ (fs.map (·.1)).Nodup ∧ (∀ z ∈ fs, z.1 ∈ cs ∧ ((z.2.1, z.2.2), z.1.1, z.1.2) ∈ es) ∧ ∀ z ∈ es.take k, (z.2.1, z.2.2) ∈ cs → (z.2.1, z.2.2) ∈ fs.map (·.1),
    ⟨(n1.trans n2).trans n3, ⟨_, _, _, rfl⟩, [], [], own2.nxt n3, .nil, List.nodup_nil, by simp, by simp⟩, ?_, ?_⟩
  · rintro k z σ' G' H' hz e1 e2 ⟨nn, ⟨a3, a4, a5, rfl⟩, us, fs, own, pu, fnd, fin, fall⟩ w2 G4 H4 n4 ⟨t, v1, v2, v3, rfl, ht, h1, h2, h3⟩
    cases h2; cases h3
    have hzm := List.mem_of_getElem? hz
    have take1 : es.take (k + 1) = es.take k ++ [z] := by rw [List.take_add_one, hz]; rfl
    have hzi := hes.inItems W z hzm
    refine tg_tup3 ht tg_name tg_name tg_name H4 n4.s _ ?_
    have rc4 := (rL (rT2 rS rS)).ex ((n2.g.trans n3.g).trans (e1.trans n4.g)) rc
    have own4 := own.nxt n4
    have pu4 := ent_ex n4.g pu
    refine s_if (b := decide ((z.2.1, z.2.2) ∈ cs)) (et_test (ev_op (R := rT2 rS rS) (S := rL (rT2 rS rS)) (ev_tup2D (x := z.2.1) (y := z.2.2) (ev_var rfl rfl) (ev_var rfl rfl)) (ev_var rfl rc4) fun G5 v5 x5 w5 y5 e5 r5 p5 r6 p6 H6 e6 Q6 q6 => ?_)) n4.s (fun hb G5 H5 n5 => ?_) (fun hb G5 H5 n5 => ?_)
    · subst p5 p6
      obtain ⟨a, u1, u2, rfl, ha1, g1, g2⟩ := r5
      cases g1; cases g2
      obtain ⟨b, us5, rfl, hb1, hb2⟩ := r6
      exact ⟨pairD (z.2.1, z.2.2), _, .tup (SqT.of (e6 a _ ha1)) (.cons (.str _) (.cons (.str _) .nil)), .lst (SqL.of (e6 b _ hb1)) (pairs_dpS e6 hb2), pair_shaped (W.iname _ hzi.1) (W.iname _ hzi.2), pairs_shaped hnm, q6 _ G5 H6 _ (Nxt.refl e6) rfl (pairs_any _)⟩
    · have hb := of_decide_eq_true hb
      have flen : fs.length ≤ 36 := by
        have := nd_len fnd fun x hx => (by obtain ⟨y, hy, rfl⟩ := List.mem_map.mp hx; exact (fin y hy).1 : x ∈ cs)
        rw [List.length_map] at this
        have := hcs.len
        omega
      have pul := pd_len pu4
      refine s_dset (R := rT2 rN rN) (RK := rT2 rS rS) (kf := kSS) (k := (z.2.1, z.2.2)) (x := z.1) inj_SS key_SS (own4.nxt n5) (ent_ex n5.g pu4) rfl (ev_tup2D (ev_var rfl rfl) (ev_var rfl rfl)) (ev_var rfl ((rT2 rN rN).ex n5.g h1)) n5.s (by omega) (fun hs G6 H6 n6 own6 => ?_) (fun hs v6 G6 H6 n6 r6 own6 => ?_)
      · refine ⟨G6, (e1.trans n4.g).trans (n5.g.trans n6.g), n6.s, ((nn.trans n4).trans n5).trans n6, ⟨_, _, _, rfl⟩, us, fs, own6, ent_ex (n5.g.trans n6.g) pu4, fnd, fin, fun y hy hc => ?_⟩
        rw [take1] at hy
        rcases List.mem_append.mp hy with hy | hy
        · exact fall y hy hc
        · rw [List.mem_singleton.mp hy]
          exact Classical.byContradiction fun c => by rw [look_none.mpr c] at hs; cases hs
      · refine ⟨G6, (e1.trans n4.g).trans (n5.g.trans n6.g), n6.s.mut own6.g, (((nn.trans n4).trans n5).trans n6).mut (n1.h.free own6.s) own6.g, ⟨_, _, _, rfl⟩, _, _, own6, pd_put inj_SS (ent_ex (n5.g.trans n6.g) pu4) r6, put_nodup fnd, fun y hy => ?_, fun y hy hc => ?_⟩
        · rcases mem_put hy with rfl | hy
          · exact ⟨hb, hzm⟩
          · exact fin y hy
        · rw [mem_put_keys]
          rw [take1] at hy
          rcases List.mem_append.mp hy with hy | hy
          · exact .inl (fall y hy hc)
          · rw [List.mem_singleton.mp hy]; exact .inr rfl
    · have hb := of_decide_eq_false hb
      refine ⟨G5, (e1.trans n4.g).trans n5.g, n5.s, (nn.trans n4).trans n5, ⟨_, _, _, rfl⟩, us, fs, own4.nxt n5, ent_ex n5.g pu4, fnd, fin, fun y hy hc => ?_⟩
      rw [take1] at hy
      rcases List.mem_append.mp hy with hy | hy
      · exact fall y hy hc
      · rw [List.mem_singleton.mp hy] at hc
        exact absurd hc hb
  · rintro σ' G' H' e1 e2 ⟨nn, ⟨a3, a4, a5, rfl⟩, us, fs, own, pu, fnd, fin, fall⟩
    rw [List.take_length] at fall
    have flen : fs.length ≤ 36 := by
      have := nd_len fnd fun x hx => (by obtain ⟨y, hy, rfl⟩ := List.mem_map.mp hx; exact (fin y hy).1 : x ∈ cs)
      rw [List.length_map] at this
      have := hcs.len
      omega
    refine s_retP (ev_sortedVals (kf := kSS) (ev_var rfl (own_dictT own pu))) (own.told e2) fun u5 G5 H5 y n5 r5 hy => q u5 G5 H5 y ((nn.tell (n1.h.free own.s) own.h own.g).trans n5) r5 ⟨fun p q' hp => ?_, fun a b hc => ?_, ?_⟩
    · obtain ⟨z, hz, e5⟩ := List.mem_map.mp (hy.mem_iff.mp hp)
      have h1 := (fin z hz).2
      rw [e5] at h1
      obtain ⟨j, g, h, d, g1, g2, _⟩ := (hes.mem _ _ _ _).mp h1
      exact ⟨(isAns_of g1).1, (isAns_of g2).1⟩
    · obtain ⟨p, q', _, _, hl⟩ := tg_cov hc
      have h1 := (hes.mem _ _ _ _).mpr hl
      have h2 := fall _ h1 ((hcs.mem a b).mpr hc)
      obtain ⟨z, hz, e5⟩ := List.mem_map.mp h2
      have h3 := (fin z hz).2
      rw [e5] at h3
      exact ⟨z.2.1, z.2.2, hy.mem_iff.mpr (List.mem_map.mpr ⟨z, hz, rfl⟩), (hes.mem _ _ _ _).mp h3⟩
    · rw [hy.length_eq, List.length_map]; exact flen)
abbrev N_greatest_below : List Str := ["log", "qualities", "places", "grade", "at"]
theorem sc_greatest_below : FnScope N_greatest_below ["log", "qualities", "places", "grade"] (defScope s_greatest_below) := ⟨rfl, rfl, rfl, by decide +kernel, rfl, by decide +kernel, by decide +kernel⟩
theorem mk_greatest_below (T : Tx K mg) {sp : Sp} (len : ∀ vs H Q E, sp vs H Q E → vs.length = 4)
    (hb : ∀ (cdv : Value) (A : Around) (outer : List Env) (s : Shared) (H : Hp) (vs : List V) (Q : VK) (E : XK), Room 3 (A.deeper (envOfC "greatest_below" (defScope s_greatest_below) s.heap.objs.size (He.ga K "greatest_below") cdv)) → sp vs H Q E →
      ∃ t, PSs (cxOf CX0 P w K mg base N_greatest_below "greatest_below" (defScope s_greatest_below) (He.ga K "greatest_below") cdv A outer s H E).nox (defBody s_greatest_below) t ∧ t { nx := fun _ H' => Q .non H', rt := Q } (start N_greatest_below vs) H) : Cal P w K mg base 4 "greatest_below" sp := by
  obtain ⟨fd, F⟩ := T.fn 16 rfl
  have b : Binds K fd ["log", "qualities", "places", "grade"] [] := F.binds fun _ _ _ _ _ _ us hl => match us, hl with | [_, _, _, _], _ => rfl
  exact ⟨_, fd, _, F.ok sc_greatest_below len hb, T.glo 15 rfl, F.kp, b⟩
def sp_greatest_below (K : PySem.W.Frag) : Sp := mkSp (aGb K) (rO FW.rI) (fun i y => IsGb i.1 i.2.1 i.2.2.1 i.2.2.2 y)
theorem ln_greatest_below {K : PySem.W.Frag} : ∀ vs H Q E, sp_greatest_below K vs H Q E → vs.length = 4 := by
  rintro vs H Q E ⟨G, i, e, h, _⟩
  have h : (aGb K) i G vs := h
  obtain ⟨_, v, u, w, rfl, _⟩ := h; rfl
theorem ok_greatest_below (T : Tx K mg) : Cal P w K mg base 4 "greatest_below" (sp_greatest_below K) := mk_greatest_below T ln_greatest_below (fun cdv A outer s H vs Q E hr h => by
  have hu := hu_of hr
  have nd := sc_greatest_below.nd
  obtain ⟨G, i, e, ha, q⟩ := h
  refine ⟨_, pss_one (ps_ret (pe_maxD hr (pe_lc (own := [("at", 4)]) (g := (gName 4)) rfl nd (k_iList (K := K) rfl (pv 2)) (blkOk_by (by kernel_rfl)) (fun _ _ _ _ _ => pg_name (i := 4) nd rfl (by first | exact Or.inl rfl | exact Or.inr rfl)) (fun _ _ _ _ _ => (pts_one (pt_cmpR op_lt (pe_m (ok_Log_grade_at T) hr (pv 0) (pa_cons (pv 4) pa_nil)) (pv 3) (nomark _)))) (fun _ _ _ _ _ => pe_dget hu (pv 1) (pe_m (ok_Log_item_at T) hr (pv 0) (pa_cons (pv 4) pa_nil)) (fun _ _ => rfl))) (pe_non) (T.free 76 rfl))), ?_⟩
  obtain ⟨L, qs, pl, g⟩ := i
  dsimp only [aGb] at ha
  obtain ⟨⟨W, hq, hpl, h24⟩, v, u1, w1, rfl, hv, hu1, hw⟩ := ha
  dsimp only at q
  have hlk : ∀ a, isAns L a = true → ∃ n, look qs (itOf L a) = some n := fun a ha => by
    cases c : look qs (itOf L a) with
    | none => exact absurd c (hq _ (W.ansj ha).2.1)
    | some n => exact ⟨n, rfl⟩
  have memN : ∀ n, n ∈ ((pl.filter fun a => decide (grOf L a < g)).map fun a => (look qs (itOf L a)).getD 0) ↔ ∃ a ∈ pl, grOf L a < g ∧ look qs (itOf L a) = some n := fun n => by
    rw [List.mem_map]
    constructor
    · rintro ⟨a, ha, rfl⟩
      obtain ⟨h1, h2⟩ := List.mem_filter.mp ha
      obtain ⟨n, hn⟩ := hlk a (hpl a h1)
      exact ⟨a, h1, of_decide_eq_true h2, by rw [hn]; rfl⟩
    · rintro ⟨a, h1, h2, h3⟩
      exact ⟨a, List.mem_filter.mpr ⟨h1, decide_eq_true h2⟩, by rw [h3]; rfl⟩
  refine s_retP (ev_maxDI (P := fun ys => ys = (pl.filter fun a => decide (grOf L a < g)).map fun a => (look qs (itOf L a)).getD 0) (U := rO FW.rI) (PD := fun d => d = none) (PZ := fun y => IsGb L qs pl g y) (ev_lcD (R := rN) (f := fun a => (look qs (itOf L a)).getD 0) (p := fun a => decide (grOf L a < g)) (ei_list (ev_var rfl hw)) (by omega) fun a ha G2 u e2 r => ?_) (ev_c rfl) (fun d h1 h2 => ?_) (fun ns m h1 h2 h3 => ⟨some m, fun _ => ⟨nofun, rfl⟩, ?_⟩)) e fun v5 G5 H5 y n5 r5 h5 => q v5 G5 H5 y n5 r5 h5
  · cases r
    have hv2 := (rLog K).ex e2 hv
    obtain ⟨n, hn⟩ := hlk a (hpl a ha)
    refine ⟨_, tg_name, rfl, et_test (ev_cmpI (r := fun i j => decide (i < j)) (ev_lmP W (hpl a ha) (ev_var rfl hv2) (ev_var rfl rfl)) (ev_var rfl rfl)), fun _ => ?_⟩
    rw [hn]
    exact ev_dget (RK := rS) inj_S key_S (ev_var rfl (rD_r ((rD kS FW.rI).ex e2 hu1))) (ev_lmP W (hpl a ha) (ev_var rfl hv2) (ev_var rfl rfl)) hn
  · subst h1
    refine ⟨fun _ a ha hlt => ?_, fun m hm => by cases hm⟩
    obtain ⟨n, hn⟩ := hlk a (hpl a ha)
    have := (memN n).mpr ⟨a, ha, hlt, hn⟩
    rw [← h2] at this
    cases this
  · subst h1
    refine ⟨fun c => (by cases c), fun m' hm => ?_⟩
    cases hm
    exact ⟨(memN m).mp h2, fun a ha hlt n hn => h3 n ((memN n).mpr ⟨a, ha, hlt, hn⟩)⟩)
abbrev N_bars_of : List Str := ["log", "qualities", "place", "ahead", "lows", "grade", "low"]
theorem sc_bars_of : FnScope N_bars_of ["log", "qualities", "place"] (defScope s_bars_of) := ⟨rfl, rfl, rfl, by decide +kernel, rfl, by decide +kernel, by decide +kernel⟩
theorem mk_bars_of (T : Tx K mg) {sp : Sp} (len : ∀ vs H Q E, sp vs H Q E → vs.length = 3)
    (hb : ∀ (cdv : Value) (A : Around) (outer : List Env) (s : Shared) (H : Hp) (vs : List V) (Q : VK) (E : XK), Room 6 (A.deeper (envOfC "bars_of" (defScope s_bars_of) s.heap.objs.size (He.ga K "bars_of") cdv)) → sp vs H Q E →
      ∃ t, PSs (cxOf CX0 P w K mg base N_bars_of "bars_of" (defScope s_bars_of) (He.ga K "bars_of") cdv A outer s H E).nox (defBody s_bars_of) t ∧ t { nx := fun _ H' => Q .non H', rt := Q } (start N_bars_of vs) H) : Cal P w K mg base 7 "bars_of" sp := by
  obtain ⟨fd, F⟩ := T.fn 17 rfl
  have b : Binds K fd ["log", "qualities", "place"] [] := F.binds fun _ _ _ _ _ _ us hl => match us, hl with | [_, _, _], _ => rfl
  exact ⟨_, fd, _, F.ok sc_bars_of len hb, T.glo 16 rfl, F.kp, b⟩
def sp_bars_of (K : PySem.W.Frag) : Sp := mkSp (aBar K) (rL FW.rI) (fun i y => IsRow i.1 i.2.1 i.2.2 y)
theorem ln_bars_of {K : PySem.W.Frag} : ∀ vs H Q E, sp_bars_of K vs H Q E → vs.length = 3 := by
  rintro vs H Q E ⟨G, i, e, h, _⟩
  have h : (aBar K) i G vs := h
  obtain ⟨_, v, u, rfl, _⟩ := h; rfl
theorem ok_bars_of (T : Tx K mg) : Cal P w K mg base 7 "bars_of" (sp_bars_of K) := mk_bars_of T ln_bars_of (fun cdv A outer s H vs Q E hr h => by
  have hu := hu_of hr
  have nd := sc_bars_of.nd
  obtain ⟨G, i, e, ha, q⟩ := h
  refine ⟨_, pss_cons (ps_set (i := 3) nd rfl (Or.inr rfl) (pe_c (ok_in_turn T) hr (pa_cons (pv 0) (pa_cons (pv 2) (pa_cons (pe_bl) pa_nil)))))
      (pss_cons (ps_setLc (i := 4) (own := [("grade", 5)]) (g := (gName 5)) (tt := tYes) rfl nd rfl rfl (sw_true rfl rfl rfl (by decide +kernel)) (pi_range2 rfl (T.free 75 rfl) (pa_cons (pe_int) (pa_cons (pe_op op_add (pe_p (ok_Log_grades T) hr (pv 0)) (pe_int)) pa_nil))) (blkOk_by (by kernel_rfl)) (fun _ _ _ _ _ => pg_name (i := 5) nd rfl (by first | exact Or.inl rfl | exact Or.inr rfl)) (fun _ _ _ _ _ => pts_nil) (fun _ _ _ _ _ => pe_c (ok_greatest_below T) hr (pa_cons (pv 0) (pa_cons (pv 1) (pa_cons (pv 3) (pa_cons (pv 5) pa_nil))))))
      (pss_one (ps_ret (pe_lc (own := [("low", 6)]) (g := (gName 6)) (tt := tYes) rfl nd (k_iList (K := K) rfl (pv 4)) (blkOk_by (by kernel_rfl)) (fun _ _ _ _ _ => pg_name (i := 6) nd rfl (by first | exact Or.inl rfl | exact Or.inr rfl)) (fun _ _ _ _ _ => pts_nil) (fun _ _ _ _ _ => pe_ifExp (pt_cmpR op_isN (pv 6) pe_non (nomark _)) (pe_int) (pe_op op_add (pv 6) (pe_int))))))), ?_⟩
  obtain ⟨L, qs, p⟩ := i
  dsimp only [aBar] at ha
  obtain ⟨⟨W, hq, hp⟩, v, u1, rfl, hv, hu1⟩ := ha
  dsimp only at q
  have hg1 := W.g1
  have hg9 := W.g9
  refine q_asgP (R := rL rN) (PA := fun y => y.length ≤ 24 ∧ ∀ a, a ∈ y ↔ Ahead L p a) (ev_call3 (R := rLog K) (S := rN) (T := rB) (ev_var rfl hv) (PB := fun y => y = p) (ev_var rfl rfl) ev_bl fun G3 v1 x1 w1 y1 w2 y2 e3 r1 p1 r2 p2 r3 p3 => ?_) e fun va G1 H1 al n1 ra hal => ?_
  · subst p1 p2 p3
    cases r2; cases r3
    exact mkSp_use (args := aLogT K) (x1, y1) ⟨W, hp, v1, rfl, r1⟩
  have hans : ∀ a ∈ al, isAns L a = true := fun a ha => (ansOf_iff.mp ((hal.2 a).mp ha).1.1).1
  have hv1 := (rLog K).ex n1.g hv
  have hu2 := (rD kS FW.rI).ex n1.g hu1
  have hgn : L.grades + 1 = ((L.grades.toNat + 1 : Nat) : Int) := by omega
  refine q_asgP (R := rL (rO FW.rI)) (PA := fun ls => Pd (fun (k : Nat) y => IsGb L qs al (k : Int) y) ((List.range (L.grades.toNat + 1 - 1)).map (1 + ·)) ls) ((ev_lc (R := rN) (S := rO FW.rI) (PX := fun xs => xs = (List.range (L.grades.toNat + 1 - 1)).map (1 + ·)) (p := fun _ => true) (F := fun (k : Nat) y => IsGb L qs al (k : Int) y) (ei_range2 (lo := 1) ev_int (ev_val (ev_addI (ev_lp W (ev_var rfl hv1) "grades" (by intros; rfl)) ev_int) hgn) (by omega) (by decide)) fun xs hxs => ?_).imp fun ys hy => ?_) n1.s fun vl G2 H2 ls n2 rl hls => ?_
  · subst hxs
    refine ⟨by rw [List.length_map, List.length_range]; omega, fun x hx G2 u e2 r => ?_⟩
    cases r
    refine ⟨_, tg_name, rfl, et_yes, fun _ => ev_call4 (R := rLog K) (S := rD kS FW.rI) (T := rL rN) (U := FW.rI) (ev_var rfl ((rLog K).ex e2 hv1)) (ev_var rfl ((rD kS FW.rI).ex e2 hu2)) (ev_var rfl ((rL rN).ex e2 ra)) (PD := fun g => g = (x : Int)) (ev_var rfl rfl) fun G6 a1 b1 a2 b2 a3 b3 a4 b4 e6 q1 p1 q2 p2 q3 p3 q4 p4 => ?_⟩
    subst p1 p2 p3 p4
    cases q4
    exact mkSp_use (args := aGb K) (b1, b2, b3, (x : Int)) ⟨⟨W, hq, hans, hal.1⟩, a1, a2, a3, rfl, q1, q2, q3⟩
  · obtain ⟨xs, rfl, h⟩ := hy
    rwa [List.filter_eq_self.mpr (fun _ _ => rfl)] at h
  have hll := pd_len hls
  rw [List.length_map, List.length_range] at hll
  refine s_retP (R := rL FW.rI) (PA := fun ys => ys = ls.map fun o => match o with | none => (0 : Int) | some m => m + 1) (ev_lcM (R := rO FW.rI) (f := fun o => match o with | none => (0 : Int) | some m => m + 1) (ei_list (ev_var rfl rl)) (by omega) fun o ho G3 u e3 r => ⟨_, tg_name, rfl, ev_if (b := o.isNone) (et_test (ev_isN (ev_var rfl r))) (fun hb => ?_) (fun hb => ?_)⟩) n2.s fun v5 G5 H5 y n5 r5 h5 => q v5 G5 H5 y ((n1.trans n2).trans n5) r5 ?_
  · cases o with
    | some m => cases hb
    | none => exact ev_int
  · cases o with
    | none => cases hb
    | some m => exact ev_addI (ev_var rfl r.2) ev_int
  · subst h5
    refine ⟨by rw [List.length_map]; omega, fun k b hb => ?_⟩
    rw [List.getElem?_map] at hb
    obtain ⟨o, ho, rfl⟩ := Option.map_eq_some_iff.mp hb
    obtain ⟨x, hx, hgb⟩ := pd_get hls ho
    rw [List.getElem?_map] at hx
    obtain ⟨x0, hx0, hx1⟩ := Option.map_eq_some_iff.mp hx
    have hk := (List.getElem?_eq_some_iff.mp hx0).1
    rw [List.length_range] at hk
    rw [List.getElem?_range hk] at hx0
    cases hx0
    have hxk : (x : Int) = (k : Int) + 1 := by rw [← hx1]; omega
    rw [hxk] at hgb
    cases o with
    | none => exact ⟨.inl ⟨rfl, fun a ha => hgb.no rfl a ((hal.2 a).mpr ha)⟩⟩
    | some m =>
      obtain ⟨⟨a, h1, h2⟩, h3⟩ := hgb.yes m rfl
      exact ⟨.inr ⟨m, rfl, ⟨a, (hal.2 a).mp h1, h2⟩, fun a ha => h3 a ((hal.2 a).mpr ha)⟩⟩)
abbrev N_Explanation_init : List Str := ["self", "qualities", "bars", "place", "row"]
theorem sc_Explanation_init : FnScope N_Explanation_init ["self", "qualities", "bars"] (defScope s_Explanation_init) := ⟨rfl, rfl, rfl, by decide +kernel, rfl, by decide +kernel, by decide +kernel⟩
theorem mk_Explanation_init (T : Tx K mg) {sp : Sp} (len : ∀ vs H Q E, sp vs H Q E → vs.length = 3)
    (hb : ∀ (cdv : Value) (A : Around) (outer : List Env) (s : Shared) (H : Hp) (vs : List V) (Q : VK) (E : XK), Room 0 (A.deeper (envOfC "Explanation.__init__" (defScope s_Explanation_init) s.heap.objs.size (He.ma K (He.ga K "Explanation") "__init__") cdv)) → sp vs H Q E →
      ∃ t, PSs (cxOf CX0 P w K mg base N_Explanation_init "Explanation.__init__" (defScope s_Explanation_init) (He.ma K (He.ga K "Explanation") "__init__") cdv A outer s H E).nox (defBody s_Explanation_init) t ∧ t { nx := fun _ H' => Q .non H', rt := Q } (start N_Explanation_init vs) H) : Mak P w K mg base 1 "Explanation" (He.ga K "Explanation") sp := by
  obtain ⟨fd, F⟩ := T.fn 13 rfl
  have b : Binds K fd ["self", "qualities", "bars"] [] := F.binds fun _ _ _ _ _ _ us hl => match us, hl with | [_, _, _], _ => rfl
  exact ⟨_, fd, _, T.mkr 42 rfl, F.ok sc_Explanation_init len hb, T.glo 40 rfl, b⟩
def sp_Explanation_init (K : PySem.W.Frag) : Sp := fun vs H Q _ => ∃ (G0 H0 G : Hp) (X : Expl) (x dx : Addr) (v1 v2 : V), vs = [.ref x, v1, v2] ∧ Nxt G0 H0 G H ∧ Own H0 G H x (.ins (cExp K) dx []) ∧ (rD kS FW.rI).is G v1 X.1 ∧ (rD kN (rL FW.rI)).is G v2 X.2 ∧ ((X.2.map (·.1)).Nodup ∧ X.2.length ≤ 24) ∧
  ∀ G2 H2, Nxt G0 H0 G2 H2 → (rExp K).is G2 (.ref x) X → Q .non H2
theorem ln_Explanation_init {K : PySem.W.Frag} : ∀ vs H Q E, sp_Explanation_init K vs H Q E → vs.length = 3 := by
  rintro vs H Q E ⟨_, _, _, _, _, _, _, _, rfl, _⟩; rfl
theorem ok_Explanation_init (T : Tx K mg) : Mak P w K mg base 1 "Explanation" (He.ga K "Explanation") (sp_Explanation_init K) := mk_Explanation_init T ln_Explanation_init (fun cdv A outer s H vs Q E hr h => by
  have hu := hu_of hr
  have nd := sc_Explanation_init.nd
  obtain ⟨G0, H0, G, X, x, dx, v1, v2, rfl, n0, own, h1, h2, ⟨hnd, h24⟩, q⟩ := h
  refine ⟨_, pss_cons (ps_fld (pv 0) (pe_callTy call_dictD (by rfl) (T.free 83 rfl) (by decide +kernel) (pa_cons (pv 1) pa_nil)) rfl)
      (pss_one (ps_fld (pv 0) (pe_lock (pe_dc (own := [("place", 3), ("row", 4)]) (g := (gTup K 2 (gCons (gName 3) (gCons (gName 4) gNil)))) (tt := tYes) rfl nd (pi_items (pv 2)) (blkOk_by (by kernel_rfl)) (fun _ _ _ _ _ => pg_tup rfl (pgs_cons (pg_name (i := 3) nd rfl (by first | exact Or.inl rfl | exact Or.inr rfl)) (pgs_cons (pg_name (i := 4) nd rfl (by first | exact Or.inl rfl | exact Or.inr rfl)) pgs_nil))) (fun _ _ _ _ _ => pts_nil) (fun _ _ _ _ _ => pv 3) (fun _ _ _ _ _ => pe_callTy (k_list (K := K) rfl) (by rfl) (T.free 82 rfl) (by decide +kernel) (pa_cons (pv 4) pa_nil)))) rfl)), ?_⟩
  refine q_fld (R := rD kS FW.rI) (PA := fun y => y = X.1) own rfl (T.cls 41 rfl) (T.noat 48 rfl) (by decide) (ev_dict (ev_var rfl (rD_r h1))) n0.s fun w1 G6 H6 y1 n6 r1 p1 own6 => ?_
  subst p1
  have h26 := (rD kN (rL FW.rI)).ex n6.g h2
  obtain ⟨d, kvs, rfl, hd, hp⟩ := h26
  refine s_fld (R := rD kN (rL FW.rI)) (PA := fun y => y = X.2) own6 rfl (T.cls 41 rfl) (T.noat 49 rfl) (by show 1 < 1000; decide) (ev_lockU (R := rD kN (rL FW.rI)) (lku_D (lk_L lk_I)) hd rfl fun od => ?_) (n6.s.mut own6.g) fun w4 G9 H9 y4 n9 r4 p4 own9 => ?_
  · refine ev_val (ev_dcM (R := rT2 rN (rL FW.rI)) (RK := rN) (S := rL FW.rI) (ky := fun z => z.1) (f := fun z => z.2) inj_N key_N (ei_items (RK := rN) (kf := kN) (fun _ _ => rfl) rfl upd_same (pd_mono (fun _ _ h => ⟨h.1, lk_L lk_I (Le.lock hd rfl) h.2⟩) hp)) (by omega) hnd fun z hz G2 u e2 r => ?_) (List.map_id' _)
    obtain ⟨t, u1, u2, rfl, ht, g1, g2⟩ := r
    exact ⟨_, tg_tup2 ht tg_name tg_name, rfl, ev_var rfl g1, ev_list (ev_var rfl g2)⟩
  · subst p4
    have nn6 := (n0.trans n6).mut (o := .ins (cExp K) dx (putF "qualities" w1 [])) own.s own6.g
    have nn := (nn6.trans n9).mut (o := .ins (cExp K) dx (putF "bars" w4 (putF "qualities" w1 []))) own.s own9.g
    have nt := nn.tell own9.s own9.h own9.g
    have nw := Ex.new (o := HO.ins (cExp K) dx (putF "bars" w4 (putF "qualities" w1 []))) own9.g
    exact q _ _ nt ⟨x, dx, w1, w4, rfl, upd_same, (rD kS FW.rI).ex (n9.g.trans nw) r1, (rD kN (rL FW.rI)).ex nw r4⟩)
/-- Explanation(..) -/
theorem ev_makeExp {σ : L2.St} {G : Hp} {ta tb : TE} {E : XK} {PB : List (Nat × List Int) → Prop} {qs : Qual} (h1 : EvD (rD kS FW.rI) ta σ G qs) (h2 : EvP (rD kN (rL FW.rI)) tb σ G PB) (hb : ∀ y, PB y → (y.map (·.1)).Nodup ∧ y.length ≤ 24) :
    EvP (rExp K) (tMake (cExp K) (sp_Explanation_init K) [] E (tCons ta (tCons tb tNil))) σ G (fun X => X.1 = qs ∧ PB X.2) := fun H e Q q =>
  h1 H e _ fun w1 G1 H1 y1 n1 r1 p1 => h2.mono n1.g H1 n1.s _ fun w2 G2 H2 y2 n2 r2 p2 => fun x dx hx hdx hne => by
  subst p1
  have n := n1.trans n2
  have nm := ((Nxt.refl n2.s).mut (o := .own x) hdx (n2.s.free hdx)).mut (o := .ins (cExp K) dx []) hx (n2.s.free hx)
  exact ⟨G2, H2, G2, (y1, y2), x, dx, w1, w2, rfl, nm, ⟨hx, n2.s.free hx, upd_same⟩, (rD kS FW.rI).ex n2.g r1, r2, hb y2 p2, fun G5 H5 n5 r5 => ⟨rfl, q _ G5 H5 (y1, y2) (n.trans n5) r5 ⟨rfl, p2⟩⟩⟩
end
end FW
/-! depths_of, explanation. -/
namespace FW
open PySem PySem.Spec PyProof.Rows L2 Hd
section
variable (P : Program) (w : World) (K : PySem.W.Frag) (mg : Str → Option Value) (base : Heap)
/-- a def that may raise -/
structure CalX (k : Nat) (x : Str) (sp : Sp) : Prop where
  ex : ∃ (f : Addr) (fd : FuncData) (ps : List Str), FnOk P w K mg base (L2.CX P w) k f fd ps sp ∧ mg x = some (.ref f) ∧ PySem.W.keepIn K (.ref f) = true ∧ Binds K fd ps []
end
/-- depths: above all that is below -/
structure DepInv (L : Log) (fs : Qual) : Prop where
  nd : (fs.map (·.1)).Nodup
  sub : ∀ x ∈ fs.map (·.1), x ∈ L.items
  low : ∀ x n, look fs x = some n → 0 ≤ n ∧ ∀ a, RB.Bt L RB.All a x → ∃ m, look fs a = some m ∧ m < n
structure IsDep (L : Log) (fs : Qual) : Prop where
  all : ∀ x ∈ L.items, ∃ n, look fs x = some n ∧ 0 ≤ n
  up : ∀ a b m n, RB.Bt L RB.All a b → look fs a = some m → look fs b = some n → m < n
def Ready (L : Log) (fs : Qual) (x : Str) : Prop := ∀ a, RB.Bt L RB.All a x → a ∈ fs.map (·.1)
theorem key_lookQ {fs : Qual} {x : Str} : x ∈ fs.map (·.1) ↔ ∃ n, look fs x = some n := by
  constructor
  · intro h
    cases c : look fs x with
    | none => exact absurd h (look_none.mp c)
    | some n => exact ⟨n, rfl⟩
  · rintro ⟨n, h⟩
    exact Classical.byContradiction fun c => by rw [look_none.mpr c] at h; cases h
theorem DepInv.more {L : Log} {fs : Qual} (h : DepInv L fs) {x : Str} {n : Int} (hx : x ∈ L.items) (hn : x ∉ fs.map (·.1)) (h0 : 0 ≤ n) (hr : Ready L fs x) (hlt : ∀ a, RB.Bt L RB.All a x → ∀ m, look fs a = some m → m < n) : DepInv L (put fs x n) := by
  refine ⟨put_nodup h.nd, fun y hy => ?_, fun y k hk => ?_⟩
  · rcases mem_put_keys.mp hy with hy | rfl
    · exact h.sub y hy
    · exact hx
  · rw [look_put] at hk
    have old : ∀ a m, look fs a = some m → look (put fs x n) a = some m := fun a m ha => by
      rw [look_put, if_neg (fun c : a = x => hn (key_lookQ.mpr ⟨m, by rw [← c]; exact ha⟩))]; exact ha
    by_cases c : y = x
    · rw [if_pos c] at hk
      cases hk
      refine ⟨h0, fun a ha => ?_⟩
      rw [c] at ha
      obtain ⟨m, hm⟩ := key_lookQ.mp (hr a ha)
      exact ⟨m, old a m hm, hlt a ha m hm⟩
    · rw [if_neg c] at hk
      obtain ⟨h1, h2⟩ := h.low y k hk
      refine ⟨h1, fun a ha => ?_⟩
      obtain ⟨m, hm, hm2⟩ := h2 a ha
      exact ⟨m, old a m hm, hm2⟩
/-- something undone has nothing undone below it -/
theorem ready_ex {L : Log} (W : WfL L) (hno : ∀ x, ¬ RB.Bt L RB.All x x) {fs : Qual} (hl : fs.length < L.items.length) : ∃ x ∈ L.items, x ∉ fs.map (·.1) ∧ Ready L fs x := by
  classical
  have h0 : ∃ x ∈ L.items, x ∉ fs.map (·.1) := Classical.byContradiction fun c => by
    have h1 : ∀ x ∈ L.items, x ∈ fs.map (·.1) := fun x hx => Classical.byContradiction fun d => c ⟨x, hx, d⟩
    have := nd_len W.ind h1
    rw [List.length_map] at this
    omega
  have key : ∀ (k : Nat) (x : Str), x ∈ L.items → x ∉ fs.map (·.1) → (L.items.filter fun z => decide (RB.Bt L RB.All z x)).length ≤ k → ∃ y ∈ L.items, y ∉ fs.map (·.1) ∧ Ready L fs y := by
    intro k
    induction k with
    | zero =>
      intro x hx hn hk
      refine ⟨x, hx, hn, fun a ha => ?_⟩
      have : a ∈ L.items.filter fun z => decide (RB.Bt L RB.All z x) := List.mem_filter.mpr ⟨(W.bt ha).1, decide_eq_true ha⟩
      have := List.length_pos_of_mem this
      omega
    | succ k ih =>
      intro x hx hn hk
      by_cases hr : Ready L fs x
      · exact ⟨x, hx, hn, hr⟩
      · obtain ⟨a, ha⟩ := Classical.not_forall.mp hr
        obtain ⟨hax, hak⟩ := Classical.not_imp.mp ha
        have hai := (W.bt hax).1
        refine ih a hai hak ?_
        have := filter_lt (p := fun z => decide (RB.Bt L RB.All z x)) (q := fun z => decide (RB.Bt L RB.All z a)) (xs := L.items) (fun z hz => decide_eq_true (RB.tg_trans (of_decide_eq_true hz) hax)) ⟨a, hai, decide_eq_true hax, decide_eq_false (hno a)⟩
        omega
  obtain ⟨x, hx, hn⟩ := h0
  exact key _ x hx hn (Nat.le_refl _)
def sp_depths_of (K : PySem.W.Frag) : Sp := fun vs H Q E => ∃ (G : Hp) (L : Log) (v : V), Ex G H ∧ WfL L ∧ vs = [v] ∧ (rLog K).is G v L ∧ ((∀ x, ¬ RB.Bt L RB.All x x) → ∀ u G2 H2 ys, Nxt G H G2 H2 → (rD kS FW.rI).is G2 u ys → IsDep L ys → Q u H2) ∧ ((∃ x, RB.Bt L RB.All x x) → ∀ G2 H2, Nxt G H G2 H2 → E (.ref (He.ga K "Unexplained")) none H2)
theorem ln_depths_of {K : PySem.W.Frag} : ∀ vs H Q E, sp_depths_of K vs H Q E → vs.length = 1 := by
  rintro vs H Q E ⟨_, _, _, _, _, rfl, _⟩; rfl
section
variable {P : Program} {w : World} {K : PySem.W.Frag} {mg : Str → Option Value} {base : Heap}

abbrev N_depths_of : List Str := ["log", "better", "depths", "item", "worse", "other"]
theorem sc_depths_of : FnScope N_depths_of ["log"] (defScope s_depths_of) := ⟨rfl, rfl, rfl, by decide +kernel, rfl, by decide +kernel, by decide +kernel⟩
theorem mk_depths_of (T : Tx K mg) {sp : Sp} (len : ∀ vs H Q E, sp vs H Q E → vs.length = 1)
    (hb : ∀ (cdv : Value) (A : Around) (outer : List Env) (s : Shared) (H : Hp) (vs : List V) (Q : VK) (E : XK), Room 9 (A.deeper (envOfC "depths_of" (defScope s_depths_of) s.heap.objs.size (He.ga K "depths_of") cdv)) → sp vs H Q E →
      ∃ t, PSs (cxOf (L2.CX P w) P w K mg base N_depths_of "depths_of" (defScope s_depths_of) (He.ga K "depths_of") cdv A outer s H E) (defBody s_depths_of) t ∧ t { nx := fun _ H' => Q .non H', rt := Q } (start N_depths_of vs) H)   : CalX P w K mg base 10 "depths_of" sp := by
  obtain ⟨fd, F⟩ := T.fn 15 rfl
  have b : Binds K fd ["log"] [] := F.binds fun _ _ _ _ _ _ us hl => match us, hl with | [_], _ => rfl
  exact ⟨_, fd, _, F.okX sc_depths_of len hb, T.glo 14 rfl, F.kp, b⟩
theorem ok_depths_of (T : Tx K mg) : CalX P w K mg base 10 "depths_of" (sp_depths_of K) := mk_depths_of T ln_depths_of (fun cdv A outer s H vs Q E hr h => by
  have hu := hu_of hr
  have nd := sc_depths_of.nd
  have xU := He.exc_ok (T.fact 72 rfl)
  obtain ⟨G, i, v, e, W, rfl, hv, q, qx⟩ := h
  refine ⟨_, pss_cons (ps_set (i := 1) nd rfl (Or.inr rfl) (pe_c (ok_better_by T) hr (pa_cons (pv 0) (pa_cons (pe_m00 (ok_Log_answers T) hr (pv 0)) pa_nil))))
      (pss_cons (ps_if (pt_val (pe_callB (k_any (K := K) rfl rfl) (by rfl) (T.free 80 rfl) (by decide +kernel) (pa_cons (pe_lock (pe_lc (own := [("item", 3)]) (g := (gName 3)) (tt := tYes) rfl nd (pi_keys (pv 1)) (blkOk_by (by kernel_rfl)) (fun _ _ _ _ _ => pg_name (i := 3) nd rfl (by first | exact Or.inl rfl | exact Or.inr rfl)) (fun _ _ _ _ _ => pts_nil) (fun _ _ _ _ _ => pe_cmpR (k_in (K := K) rfl) (pv 3) (pe_dget hu (pv 1) (pv 3) (fun _ _ => rfl)) rfl))) pa_nil))) (pss_one (ps_raise rfl (takes_of rfl rfl rfl rfl) (pmk_own PySem.F.excBase_ValueError xU.1 (T.glo 71 rfl) xU.2.1 (raises_own xU.2.2.1 xU.2.2.2) (by rfl)))) (pss_nil))
      (PSs.nox (pss_cons (ps_set (i := 2) nd rfl (Or.inr rfl) (pe_dnewK))
      (pss_cons (ps_while PassesOwn.never (pt_cmpR op_lt (pe_callB call_lenD (by rfl) (T.free 74 rfl) (by decide +kernel) (pa_cons (pv 2) pa_nil)) (pe_callB call_lenD (by rfl) (T.free 74 rfl) (by decide +kernel) (pa_cons (pv 1) pa_nil)) (nomark _)) (pss_one (ps_lock (ps_for PassesOwn.never rfl (pi_keys (pv 1)) (pg_name (i := 3) nd rfl (Or.inr rfl)) (pss_cons (ps_setLc (i := 4) (own := [("other", 5)]) (g := (gName 5)) rfl nd rfl rfl (sw_true rfl rfl rfl (by decide +kernel)) (pi_keys (pv 1)) (blkOk_by (by kernel_rfl)) (fun _ _ _ _ _ => pg_name (i := 5) nd rfl (by first | exact Or.inl rfl | exact Or.inr rfl)) (fun _ _ _ _ _ => (pts_one (pt_cmpR (k_in (K := K) rfl) (pv 3) (pe_dget hu (pv 1) (pv 5) (fun _ _ => rfl)) rfl))) (fun _ _ _ _ _ => pv 5))
      (pss_one (ps_if (PW.pt (pw_and (pt_cmp (pc_dnotin hu (pv 3) (pv 2))) (pw_and1 (pt_val (pe_callB (k_all (K := K) rfl rfl) (by rfl) (T.free 79 rfl) (by decide +kernel) (pa_cons (pe_lc (own := [("other", 5)]) (g := (gName 5)) (tt := tYes) rfl nd (k_iList (K := K) rfl (pv 4)) (blkOk_by (by kernel_rfl)) (fun _ _ _ _ _ => pg_name (i := 5) nd rfl (by first | exact Or.inl rfl | exact Or.inr rfl)) (fun _ _ _ _ _ => pts_nil) (fun _ _ _ _ _ => pe_cmp (pc_din hu (pv 5) (pv 2)) rfl)) pa_nil)))))) (pss_one (ps_dput hu (pv 2) (pv 3) (pe_maxD hr (pe_lc (own := [("other", 5)]) (g := (gName 5)) (tt := tYes) rfl nd (k_iList (K := K) rfl (pv 4)) (blkOk_by (by kernel_rfl)) (fun _ _ _ _ _ => pg_name (i := 5) nd rfl (by first | exact Or.inl rfl | exact Or.inr rfl)) (fun _ _ _ _ _ => pts_nil) (fun _ _ _ _ _ => pe_op op_add (pe_dget hu (pv 2) (pv 5) (fun _ _ => rfl)) (pe_int))) (pe_int) (T.free 76 rfl)) rfl)) (pss_nil))))))))
      (pss_one (ps_ret (pv 2))))))), ?_⟩
  have h6 := W.ilen
  refine q_asgP (ev_better W (ev_var rfl hv)) e fun vd G1 H1 ds n1 rd hB => ?_
  have hrb := ringB_iff hB fun x t => (W.bt t).1
  have hdl : ds.length = i.items.length := by
    have := congrArg List.length hB.keys
    rwa [List.length_map] at this
  refine q_if1 (et_B (ev_ring hB h6 rfl rd fun x => ⟨rfl, rfl, rfl⟩)) n1.s (fun hb G2 H2 n2 => ?_) fun hb G2 H2 n2 => ?_
  · exact qx (hrb.mp hb) G2 H2 (n1.trans n2)
  have hno : ∀ x, ¬ RB.Bt i RB.All x x := fun x hx => by
    rw [hrb.mpr ⟨x, hx⟩] at hb
    cases hb
  have n12 := n1.trans n2
  obtain ⟨d, kvs, rfl, hd1, hp1⟩ := rd
  have hrow : ∀ (x o : Str), o ∈ i.items → (x ∈ (look ds o).getD [] ↔ RB.Bt i RB.All o x) := fun x o ho => by
    obtain ⟨r, h1, _, h3⟩ := hB.row o ho
    rw [h1]; exact h3 x
  refine q_newK n2.s fun f H3 n3 own3 => ?_
  refine q_while (m0 := i.items.length) (Pv := fun m σ' G' H' => Nxt G H G' H' ∧ (∃ a3 a4, σ' = [some v, some (.ref d), some (.ref f), a3, a4, none]) ∧ ∃ us fs, Own H2 G' H' f (.dK us) ∧ Pd (Ent kS FW.rI G') us fs ∧ DepInv i fs ∧ m = i.items.length - fs.length) n3.s ⟨n12.trans n3, ⟨_, _, rfl⟩, [], [], own3, .nil, ⟨List.nodup_nil, by simp, fun x n h => by cases h⟩, rfl⟩ ?_
  rintro m σ' G' H' e1 e2 ⟨nn, ⟨a3, a4, rfl⟩, us, fs, own, pu, inv, rfl⟩
  have ex1 : Ex G1 G' := n2.g.trans (n3.g.trans e1)
  have hd' := ex1 d _ hd1
  have hp' := ent_ex ex1 hp1
  have hfd : f ≠ d := fun c => by
    have := own.g
    rw [c, hd'] at this; cases this
  have fsl : fs.length ≤ i.items.length := by
    have := nd_len inv.nd inv.sub
    rwa [List.length_map] at this
  have rdt : (rD kS (rL rS)).is (upd G' f (.dK us)) (.ref d) ds := (rD kS (rL rS)).ex (Ex.new own.g) ⟨d, kvs, rfl, hd', hp'⟩
  refine et_own (b := decide (fs.length < i.items.length)) own (et_test (ev_val (ev_cmpI (r := fun i j => decide (i < j)) (ev_N (ev_lenD (ev_var rfl (own_dict own pu)))) (ev_N (ev_lenD (ev_var rfl rdt)))) (decide_eq_decide.mpr (by omega)))) e2 fun G4 H4 n4 own4 => ?_
  have nn4 := nn.trans n4
  have pu4 := ent_ex n4.g pu
  by_cases hlt : fs.length < i.items.length
  · rw [if_pos (decide_eq_true hlt)]
    refine ⟨fun σ3 H5 => ∃ m' G5, m' < i.items.length - fs.length ∧ Ex G2 G5 ∧ Ex G5 H5 ∧ (Nxt G H G5 H5 ∧ (∃ a3 a4, σ3 = [some v, some (.ref d), some (.ref f), a3, a4, none]) ∧ ∃ us fs, Own H2 G5 H5 f (.dK us) ∧ Pd (Ent kS FW.rI G5) us fs ∧ DepInv i fs ∧ m' = i.items.length - fs.length), fun σ3 H5 ⟨m', G5, h1, h2, h3, h4⟩ => ⟨m', h1, G5, h2, h3, h4⟩, ?_⟩
    have hd4 := n4.g d _ hd'
    have hp4 := ent_ex n4.g hp'
    refine ⟨d, .dK kvs, n4.s d _ hd4, mut_isD rfl, fun od => ?_⟩
    have hI : ∀ {σ : L2.St} {Gz : Hp}, σ[1]? = some (some (.ref d)) → Ex (upd G4 d (.frz od (.dK kvs))) Gz → EvI rS (iKeys (tVar 1)) σ Gz (fun ys => ys = i.items) := fun {σ Gz} hσ ez => by
      have h := ei_keys (RK := rS) (kf := kS) (G := Gz) (σ := σ) (td := tVar 1) (xs := ds) (fun _ _ => rfl) (ev_var (R := rV) hσ rfl) (ez d _ upd_same) (frz_keys (d := d) hp4)
      rw [hB.keys] at h; exact h
    have rdL : (rDr kS (rL rS)).is (upd G4 d (.frz od (.dK kvs))) (.ref d) ds := frz_dr (lk_L lk_S) hd4 hp4
    obtain ⟨x0, hx0, hx0n, hx0r⟩ := ready_ex W hno hlt
    refine s_for (G := upd G4 d (.frz od (.dK kvs))) (hI rfl (Ex.refl _)) n4.s.upd2 (fun xs G5 H5 hxs n5 => ?_)
    subst hxs
    have own5 : Own H2 (upd G4 d (.frz od (.dK kvs))) (upd H4 d (.frz od (.dK kvs))) f (.dK us) := ⟨own4.s, by rw [upd_ne hfd]; exact own4.g, by rw [upd_ne hfd]; exact own4.h⟩
    refine ⟨fun j σ' GB HB => (Nxt G H (upd GB d (.dK kvs)) (upd HB d (.dK kvs)) ∧ Ex (upd G4 d (.frz od (.dK kvs))) GB) ∧ (∃ a3 a4, σ' = [some v, some (.ref d), some (.ref f), a3, a4, none]) ∧ ∃ us ff, Own H2 GB HB f (.dK us) ∧ Pd (Ent kS FW.rI GB) us ff ∧ DepInv i ff ∧ (∀ x ∈ fs.map (·.1), x ∈ ff.map (·.1)) ∧ (∀ x ∈ i.items.take j, Ready i fs x → x ∈ ff.map (·.1)),
      ⟨⟨nn4.trans (nxt_unlock hd4 n4.s n5), n5.g⟩, ⟨_, _, rfl⟩, us, fs, own5.nxt n5, pd_mono (fun _ _ h => h) pu4, inv, fun x h => h, by simp⟩, ?_, ?_⟩
    · rintro j x σ' GB HB hx eA eB ⟨⟨nB, xB⟩, ⟨a3, a4, rfl⟩, us, ff, ownB, puB, invB, subB, redB⟩ w1 GC HC nC rfl
      have hxm := List.mem_of_getElem? hx
      have take1 : i.items.take (j + 1) = i.items.take j ++ [x] := by rw [List.take_add_one, hx]; rfl
      have xC := xB.trans nC.g
      refine q_asg (R := rL rS) (x := i.items.filter fun o => decide (x ∈ (look ds o).getD [])) (ev_val (ev_lcD (R := rS) (f := fun o => o) (p := fun o => decide (x ∈ (look ds o).getD [])) (hI rfl xC) (by omega) fun o ho GD u eD r => ?_) (List.map_id' _)) nC.s fun vw GD HD nD rw_ => ?_
      · cases r
        obtain ⟨r, h1, _, _⟩ := hB.row o ho
        refine ⟨_, tg_name, rfl, et_test ?_, fun _ => ev_var rfl rfl⟩
        rw [h1]
        exact ev_inS (ev_var rfl rfl) (ev_dget (RK := rS) inj_S key_S (ev_var rfl ((rDr kS (rL rS)).ex (xC.trans eD) rdL)) (ev_var rfl rfl) h1)
      have memW : ∀ o, o ∈ (i.items.filter fun o => decide (x ∈ (look ds o).getD [])) ↔ RB.Bt i RB.All o x := fun o => by
        rw [List.mem_filter, decide_eq_true_eq]
        exact ⟨fun h => (hrow x o h.1).mp h.2, fun h => ⟨(W.bt h).1, (hrow x o (W.bt h).1).mpr h⟩⟩
      have lenW : (i.items.filter fun o => decide (x ∈ (look ds o).getD [])).length ≤ 6 := Nat.le_trans (List.length_filter_le _ _) h6
      generalize hws : (i.items.filter fun o => decide (x ∈ (look ds o).getD [])) = ws at memW lenW rw_
      have ownD := (ownB.nxt nC).nxt nD
      have puD : Pd (Ent kS FW.rI GD) us ff := pd_mono (fun _ _ h => h) puB
      have nBD := (nB.trans (nxt_upd nC)).trans (nxt_upd nD)
      have rwt : (rL rS).is (upd GD f (.dK us)) vw ws := (rL rS).ex (Ex.new ownD.g) rw_
      have hdt := rD_r (own_dict ownD puD)
      refine s_ifO (b := !decide (x ∈ ff.map (·.1)) && (ws.map fun o => decide (o ∈ ff.map (·.1))).all id) ownD (et_and (et_B (ev_dnotin (RK := rS) inj_S key_S (ev_var rfl rfl) (ev_var rfl hdt))) fun _ => et_B (ev_all (ev_lcM (R := rS) (f := fun o => decide (o ∈ ff.map (·.1))) (ei_list (ev_var rfl rwt)) (by omega) fun o ho GE u eE r => ?_))) nD.s (fun hb GE HE nE ownE => ?_) (fun hb GE HE nE ownE => ?_)
      · cases r
        exact ⟨_, tg_name, rfl, ev_din (RK := rS) inj_S key_S (ev_var rfl rfl) (ev_var rfl ((rDr kS FW.rI).ex eE hdt))⟩
      · rw [Bool.and_eq_true, Bool.not_eq_true', decide_eq_false_iff_not, List.all_eq_true] at hb
        have hrd : Ready i ff x := fun a ha => by
          have := hb.2 _ (List.mem_map.mpr ⟨a, (memW a).mpr ha, rfl⟩)
          exact of_decide_eq_true this
        have puE : Pd (Ent kS FW.rI GE) us ff := pd_mono (fun _ _ h => h) puD
        have lfl : ff.length ≤ i.items.length := by
          have := nd_len invB.nd invB.sub
          rwa [List.length_map] at this
        have lul := pd_len puE
        have hdE := rD_r (own_dict ownE puE)
        refine s_dputA (RK := rS) (R := FW.rI) (x := x) (PA := fun n => 0 ≤ n ∧ ∀ a ∈ ws, ∀ m, look ff a = some m → m < n) key_S ownE rfl (AtP.own off_I ownE rfl nE.s (ev_maxDI (P := fun ys => ys = ws.map fun o => (look ff o).getD 0 + 1) (U := FW.rI) (PD := fun d => d = 0) (ev_lcM (R := rS) (f := fun o => (look ff o).getD 0 + 1) (ei_list (ev_var rfl ((rL rS).ex (nE.g.trans (Ex.new (o := .dK us) ownE.g)) rw_))) (by omega) fun o ho GF u eF r => ?_) (ev_c rfl) (fun n h1 h2 => ?_) (fun ns n h1 h2 h3 => ⟨n, fun _ => rfl, ?_⟩))) (ev_var rfl rfl) (by omega) fun v8 G8 H8 n nF r8 p8 own8 => ?_
        · cases r
          obtain ⟨k, hk⟩ := key_lookQ.mp (hrd o ((memW o).mp ho))
          refine ⟨_, tg_name, rfl, ?_⟩
          rw [hk]
          exact ev_addI (ev_dget (RK := rS) inj_S key_S (ev_var rfl ((rDr kS FW.rI).ex eF hdE)) (ev_var rfl rfl) hk) ev_int
        · subst h1
          refine ⟨Int.le_refl _, fun a ha => ?_⟩
          have := List.map_eq_nil_iff.mp h2.symm
          rw [this] at ha; cases ha
        · subst h1
          obtain ⟨o, ho, rfl⟩ := List.mem_map.mp h2
          obtain ⟨k, hk⟩ := key_lookQ.mp (hrd o ((memW o).mp ho))
          have hk0 := (invB.low o k hk).1
          refine ⟨by rw [hk]; show 0 ≤ k + 1; omega, fun a ha m hm => ?_⟩
          have := h3 _ (List.mem_map.mpr ⟨a, ha, rfl⟩)
          rw [hm] at this
          have this : m + 1 ≤ (look ff o).getD 0 + 1 := this
          omega
        · have mm := ((nBD.trans (nxt_upd nE)).trans (nxt_upd nF)).mut (o := .dK (putK us (kS x) v8)) (n12.h.free own8.s) (by rw [upd_ne hfd]; exact own8.g)
          rw [upd_swap (Ne.symm hfd)] at mm
          refine ⟨G8, (eA.trans nC.g).trans (nD.g.trans (nE.g.trans nF.g)), nF.s.mut own8.g, ⟨mm, xC.trans (nD.g.trans (nE.g.trans nF.g))⟩, ⟨_, _, rfl⟩, _, _, own8, pd_put inj_S (pd_mono (fun _ _ h => h) puE) r8, invB.more hxm hb.1 p8.1 hrd (fun a ha => p8.2 a ((memW a).mpr ha)), fun y hy => mem_put_keys.mpr (.inl (subB y hy)), fun y hy hry => ?_⟩
          rw [take1] at hy
          rcases List.mem_append.mp hy with hy | hy
          · exact mem_put_keys.mpr (.inl (redB y hy hry))
          · rw [List.mem_singleton.mp hy]; exact mem_put_keys.mpr (.inr rfl)
      · refine ⟨GE, (eA.trans nC.g).trans (nD.g.trans nE.g), nE.s, ⟨nBD.trans (nxt_upd nE), xC.trans (nD.g.trans nE.g)⟩, ⟨_, _, rfl⟩, us, ff, ownE, pd_mono (fun _ _ h => h) puD, invB, subB, fun y hy hry => ?_⟩
        rw [take1] at hy
        rcases List.mem_append.mp hy with hy | hy
        · exact redB y hy hry
        · rw [List.mem_singleton.mp hy] at hry ⊢
          refine Classical.byContradiction fun c => ?_
          rw [decide_eq_false c] at hb
          have hb : ((ws.map fun o => decide (o ∈ ff.map (·.1))).all id) = false := hb
          have : ((ws.map fun o => decide (o ∈ ff.map (·.1))).all id) = true := List.all_eq_true.mpr fun b hb2 => by
            obtain ⟨o, ho, rfl⟩ := List.mem_map.mp hb2
            exact decide_eq_true (subB o (hry o ((memW o).mp ho)))
          rw [this] at hb
          cases hb
    · rintro σ' GB HB eA eB ⟨⟨nB, xB⟩, ⟨a3, a4, rfl⟩, us, ff, ownB, puB, invB, subB, redB⟩
      rw [List.take_length] at redB
      have hnew := redB x0 hx0 hx0r
      have lfl : ff.length ≤ i.items.length := by
        have := nd_len invB.nd invB.sub
        rwa [List.length_map] at this
      have lgr : fs.length + 1 ≤ ff.length := by
        have := nd_len (xs := x0 :: fs.map (·.1)) (ys := ff.map (·.1)) (List.nodup_cons.mpr ⟨hx0n, inv.nd⟩) fun y hy => by
          rcases List.mem_cons.mp hy with rfl | hy
          · exact hnew
          · exact subB y hy
        rwa [List.length_cons, List.length_map, List.length_map] at this
      refine ⟨eB d _ (xB d _ upd_same), i.items.length - ff.length, upd GB d (.dK kvs), by omega, (n3.g.trans e1).trans (n4.g.trans (ex_unlk hd4 xB)), nB.s, nB, ⟨_, _, rfl⟩, us, ff, ⟨ownB.s, by rw [upd_ne hfd]; exact ownB.g, by rw [upd_ne hfd]; exact ownB.h⟩, pd_mono (fun _ _ h => h) puB, invB, rfl⟩
  · rw [if_neg (by rw [decide_eq_true_eq]; exact hlt)]
    have hall : ∀ x ∈ i.items, x ∈ fs.map (·.1) := fun x hx => Classical.byContradiction fun c => by
      have := nd_len (xs := x :: fs.map (·.1)) (ys := i.items) (List.nodup_cons.mpr ⟨c, inv.nd⟩) fun y hy => by
        rcases List.mem_cons.mp hy with rfl | hy
        · exact hx
        · exact inv.sub y hy
      rw [List.length_cons, List.length_map] at this
      omega
    refine s_retK nn4 own4 n12.h pu4 rfl fun u5 G5 H5 n5 r5 => q hno u5 G5 H5 fs n5 r5 ⟨fun x hx => ?_, fun a b m n hab ha hb => ?_⟩
    · obtain ⟨n, hn⟩ := key_lookQ.mp (hall x hx)
      exact ⟨n, hn, (inv.low x n hn).1⟩
    · obtain ⟨m', h1, h2⟩ := (inv.low b n hb).2 a hab
      rw [ha] at h1
      cases h1
      exact h2)
structure IsExp (L : Log) (y : Option Expl) : Prop where
  no : y = none ↔ ∃ x, RB.Bt L RB.All x x
  dep : ∀ X, y = some X → IsDep L X.1
  bars : ∀ X, y = some X → ∀ p, isAns L p = true → ∃ row, look X.2 p = some row ∧ IsRow L X.1 p row
theorem pd_keys {α β : Type} {F : α → β → Prop} : ∀ {xs : List α} {ys : List (α × β)}, Pd (fun x y => y.1 = x ∧ F x y.2) xs ys → ys.map (·.1) = xs
  | _, _, .nil => rfl
  | _, _, .cons a t => by rw [List.map_cons, pd_keys t, a.1]
theorem exp_nn {K : PySem.W.Frag} {G : Hp} {v : V} {x : Expl} (h : (rExp K).is G v x) : v ≠ .non := by
  obtain ⟨a, _, _, _, rfl, _⟩ := h
  exact nofun
abbrev N_explanation : List Str := ["log", "qualities", "place"]
theorem sc_explanation : FnScope N_explanation ["log"] (defScope s_explanation) := ⟨rfl, rfl, rfl, by decide +kernel, rfl, by decide +kernel, by decide +kernel⟩
theorem mk_explanation (T : Tx K mg) {sp : Sp} (len : ∀ vs H Q E, sp vs H Q E → vs.length = 1)
    (hb : ∀ (cdv : Value) (A : Around) (outer : List Env) (s : Shared) (H : Hp) (vs : List V) (Q : VK) (E : XK), Room 10 (A.deeper (envOfC "explanation" (defScope s_explanation) s.heap.objs.size (He.ga K "explanation") cdv)) → sp vs H Q E →
      ∃ t, PSs (cxOf CX0 P w K mg base N_explanation "explanation" (defScope s_explanation) (He.ga K "explanation") cdv A outer s H E).nox (defBody s_explanation) t ∧ t { nx := fun _ H' => Q .non H', rt := Q } (start N_explanation vs) H) : Cal P w K mg base 11 "explanation" sp := by
  obtain ⟨fd, F⟩ := T.fn 18 rfl
  have b : Binds K fd ["log"] [] := F.binds fun _ _ _ _ _ _ us hl => match us, hl with | [_], _ => rfl
  exact ⟨_, fd, _, F.ok sc_explanation len hb, T.glo 17 rfl, F.kp, b⟩
def sp_explanation (K : PySem.W.Frag) : Sp := mkSp (aLog K) (rO (rExp K)) (fun L y => IsExp L y)
theorem ln_explanation {K : PySem.W.Frag} : ∀ vs H Q E, sp_explanation K vs H Q E → vs.length = 1 := by
  rintro vs H Q E ⟨G, i, e, h, _⟩
  have h : (aLog K) i G vs := h
  obtain ⟨_, v, rfl, _⟩ := h; rfl
theorem ok_explanation (T : Tx K mg) : Cal P w K mg base 11 "explanation" (sp_explanation K) := mk_explanation T ln_explanation (fun cdv A outer s H vs Q E hr h => by
  have hu := hu_of hr
  have nd := sc_explanation.nd
  obtain ⟨fX, fdX, psX, FX, mX, kX, bX⟩ := (ok_depths_of (P := P) (w := w) (base := base) T).ex
  obtain ⟨G, i, e, ha, q⟩ := h
  refine ⟨_, pss_cons (ps_try_only (c := .ref (He.ga K "Unexplained")) (tb := fun W => tAsg (tCallS (sp_depths_of K) (WE W) (tCons (tVar 0) tNil)) (gName 1)) (ts := fun _ _ _ => tRet (tC .non)) (Wout := fun _ _ _ _ => False) rfl rfl ⟨rfl, by decide, Or.inl (T.glo 71 rfl)⟩ takes0 (fun W pn xe tk _ => pss_one (ps_set (i := 1) nd rfl (Or.inr rfl) (pe_callS FX (hr.mono (by decide)) rfl mX kX bX (fun σ => passAt tk σ) (pa_cons (pv 0) pa_nil)))) (fun a oe cls d pn _ _ => pss_one (ps_ret pe_non)))
      (pss_one (ps_ret (pe_mk (ok_Explanation_init T) hr (pa_cons (pv 1) (pa_cons (pe_dc (own := [("place", 2)]) (g := (gName 2)) (tt := tYes) rfl nd (k_iList (K := K) rfl (pe_m00 (ok_Log_answers T) hr (pv 0))) (blkOk_by (by kernel_rfl)) (fun _ _ _ _ _ => pg_name (i := 2) nd rfl (by first | exact Or.inl rfl | exact Or.inr rfl)) (fun _ _ _ _ _ => pts_nil) (fun _ _ _ _ _ => pv 2) (fun _ _ _ _ _ => pe_c (ok_bars_of T) hr (pa_cons (pv 0) (pa_cons (pv 1) (pa_cons (pv 2) pa_nil))))) pa_nil))))), ?_⟩
  obtain ⟨W, v, rfl, hv⟩ := ha
  have hel := W.elen
  have hal := ansL_len (L := i)
  refine ⟨v, rfl, G, i, v, e, W, rfl, hv, fun hno u G2 H2 ys n2 rq hd => ?_, fun hrg G2 H2 n2 => ?_⟩
  · dsimp only [gName]
    have hv2 := (rLog K).ex n2.g hv
    have hcov : Covers i ys := fun x hx => by
      obtain ⟨n, hn, _⟩ := hd.all x hx
      rw [hn]; exact nofun
    refine s_retP (R := rExp K) (PA := fun X => X.1 = ys ∧ Pd (fun (x : Nat) (y : Nat × List Int) => y.1 = x ∧ IsRow i ys x y.2) (ansL i) X.2) (ev_makeExp (PB := fun zs => Pd (fun (x : Nat) (y : Nat × List Int) => y.1 = x ∧ IsRow i ys x y.2) (ansL i) zs) (ev_var rfl rq) (ev_dcP (R := rN) (RK := rN) (S := rL FW.rI) (ky := fun p => p) (F := fun p row => IsRow i ys p row) inj_N key_N (ei_list (ev_lm0 W (ev_var rfl hv2))) (by omega) (by rw [List.map_id']; exact ansL_nodup) fun x hx G3 u3 e3 r => ?_) fun zs hzs => ?_) n2.s fun v5 G5 H5 X n5 r5 hX => q v5 G5 H5 (some X) (n2.trans n5) ⟨exp_nn r5, r5⟩ ⟨⟨nofun, fun ⟨x, hx⟩ => absurd hx (hno x)⟩, fun X' hX' => ?_, fun X' hX' p hp => ?_⟩
    · cases r
      refine ⟨_, tg_name, rfl, ev_var rfl rfl, ev_call3 (R := rLog K) (S := rD kS FW.rI) (T := rN) (PC := fun y => y = x) (ev_var rfl ((rLog K).ex e3 hv2)) (ev_var rfl ((rD kS FW.rI).ex e3 rq)) (ev_var rfl rfl) fun G4 v1 x1 w1 y1 w2 y2 e4 r1 p1 r2 p2 r3 p3 => ?_⟩
      subst p1 p2 p3
      cases r3
      exact mkSp_use (args := aBar K) (x1, y1, y2) ⟨⟨W, hcov, mem_ansL.mp hx⟩, v1, w1, rfl, r1, r2⟩
    · have := pd_keys hzs
      refine ⟨by rw [this]; exact ansL_nodup, ?_⟩
      have := congrArg List.length this
      rw [List.length_map] at this
      omega
    · cases hX'
      rw [hX.1]; exact hd
    · cases hX'
      have hk := pd_keys hX.2
      obtain ⟨z, hz, hz1, hz2⟩ := pd_mem hX.2 (mem_ansL.mpr hp)
      subst hz1
      exact ⟨z.2, look_of_mem (by rw [hk]; exact ansL_nodup) hz, by rw [hX.1]; exact hz2⟩
  · refine ⟨true, He.exm_ok (T.fact 73 rfl), fun _ a ha => ?_, fun c => by cases c⟩
    exact s_ret (R := rO (rExp K)) (x := none) (ev_c rfl) n2.s fun v4 G4 H4 n4 r4 => q v4 G4 H4 none (n2.trans n4) r4 ⟨⟨fun _ => hrg, fun _ => rfl⟩, fun X hX => (by cases hX), fun X hX => (by cases hX)⟩)
end
end FW
/-! law_row, law_numbers, law_log. -/
namespace FW
open PySem PySem.Spec PyProof.Rows L2 Hd
section
variable {α β : Type} {R : Rp α} {σ : L2.St} {G H : Hp} {ta tb : TE} {D : Ends} {u : TS}
/-- constants, one after the other -/
def tCs : List V → TA
  | [] => tNil
  | v :: r => tCons (tC v) (tCs r)
theorem tCs_run : ∀ (vs : List V) (σ : L2.St) (H : Hp) (k : List V → Hp → Prop), k vs H → tCs vs σ H k
  | [], _, _, _, h => h
  | v :: r, σ, H, k, h => tCs_run r σ H (fun vs H2 => k (v :: vs) H2) h
theorem ev_lstC {vs : List V} {xs : List α} (hp : ∀ G, Pd (R.is G) vs xs) (hl : vs.length ≤ sizeLine) : EvD (rL R) (tLst (tCs vs)) σ G xs := fun H e Q q => tCs_run vs σ H _ ⟨hl, fun p hn => by
  have n := Nxt.new (o := .lst vs) e hn
  exact q _ _ _ xs n ⟨p, vs, rfl, upd_same, hp _⟩ rfl⟩
theorem ev_modI {i j : Int} (ha : EvD FW.rI ta σ G i) (hb : EvD FW.rI tb σ G j) (hj : 0 < j) : EvD FW.rI (tOp (L2.rI (fun _ j => 0 < j) fun i j => V.int (i % j)) ta tb) σ G (i % j) := ev_Ic ha hb hj fun _ => rfl
theorem ev_divI {i j : Int} (ha : EvD FW.rI ta σ G i) (hb : EvD FW.rI tb σ G j) (hj : 0 < j) (h2 : j < 1073741824) : EvD FW.rI (tOp (L2.rI CDiv fun i j => V.int (i / j)) ta tb) σ G (i / j) := ev_Ic ha hb ⟨hj, h2⟩ fun _ => rfl
theorem ev_mulI {i j : Int} (ha : EvD FW.rI ta σ G i) (hb : EvD FW.rI tb σ G j) (h : CMul i j) : EvD FW.rI (tOp (L2.rI CMul fun i j => V.int (i * j)) ta tb) σ G (i * j) := ev_Ic ha hb h fun _ => rfl
theorem set_same {σ : L2.St} : ∀ {i : Nat} {x : Option V}, σ[i]? = some x → σ.set i x = σ := by
  induction σ with
  | nil => intro i x h; rfl
  | cons a r ih =>
    intro i x h
    cases i with
    | zero => cases h; rfl
    | succ i => exact congrArg (a :: ·) (ih (by simpa using h))
/-- if t: i = e, ints -/
theorem q_ifI {t : TT} {te : TE} {σ : L2.St} {G H : Hp} {D : Ends} {u : TS} {b : Bool} {i : Nat} {x x0 : Int} (h : EvT t σ G b) (hi : σ[i]? = some (some (.int x0))) (he : b = true → EvD FW.rI te σ G x) (e : Ex G H) (k : ∀ y G2 H2, Nxt G H G2 H2 → (y = if b = true then x else x0) → u D (σ.set i (some (.int y))) H2) :
    tSeq (tIfS t (tAsg te (gName i)) tNext) u D σ H := q_if h e (fun hb G2 H2 n => s_asg (R := FW.rI) ((he hb).mono n.g) n.s fun v G3 H3 n3 r => by
    cases r
    exact k x G3 H3 (n.trans n3) (by rw [if_pos hb])) fun hb G2 H2 n => by
    have := k x0 G2 H2 n (by rw [if_neg (by rw [hb]; exact Bool.false_ne_true)])
    rw [set_same hi] at this
    exact this
end
/-- numbers of the law -/
def NumOk (x : Int) : Prop := 0 ≤ x ∧ x < 1009
abbrev aRow : Int × Nat → Hp → List V → Prop := fun i _ vs => i.2 ≤ 61 ∧ vs = [.int i.1, .int (i.2 : Int)]
/-- a list of ints, written by whom ever -/
def rSc (K : PySem.W.Frag) : Rp (List Int) := ⟨fun G v xs => ∃ a, v = .ref a ∧ SqL K G a (xs.map V.int), fun e h => by
  obtain ⟨a, h1, h2⟩ := h
  refine ⟨a, h1, ?_⟩
  rcases h2 with h2 | h2
  · exact .inl (e.rd h2)
  · exact .inr h2⟩
theorem ev_takeSc {K : PySem.W.Frag} {σ : L2.St} {G : Hp} {ta tb : TE} {xs : List Int} {k : Nat} (ha : EvD (rSc K) ta σ G xs) (hk : EvD FW.rI tb σ G (k : Int)) : EvD (rL FW.rI) (tSl (rSlL K) ta tNoPart (tPart tb)) σ G (xs.take k) := fun H e Q q => ha H e _ fun v G2 H2 x n r p => by
  subst p
  obtain ⟨a, rfl, ha⟩ := r
  refine hk.mono n.g H2 n.s _ fun w G3 H3 y n2 r2 p2 => ?_
  subst p2
  cases r2
  refine ⟨_, rfl, a, _, rfl, ((rSc K).ex (n2.g.trans n2.s) ⟨a, rfl, ha⟩ : (rSc K).is H3 (.ref a) x) |> fun h => (by obtain ⟨b, hb, hs⟩ := h; cases hb; exact hs), fun p hp0 => ?_⟩
  have ec : cutV (x.map V.int) none (some (k : Int)) = (x.take k).map V.int := by
    unfold cutV
    rw [HT.sIx_none, HT.sIx_nat, List.drop_zero, Nat.sub_zero, ← List.map_take]
    by_cases hk : k ≤ x.length
    · rw [Nat.min_eq_left (by rw [List.length_map]; exact hk)]
    · rw [Nat.min_eq_right (by rw [List.length_map]; omega), List.length_map, List.take_of_length_le (Nat.le_refl _), List.take_of_length_le (by omega)]
  rw [ec]
  have n3 := Nxt.new (o := .lst ((x.take k).map V.int)) n2.s hp0
  exact q _ _ _ _ ((n.trans n2).trans n3) ⟨p, _, rfl, upd_same, ints_pd _⟩ rfl
abbrev aNum (K : PySem.W.Frag) : List Int → Hp → List V → Prop := fun xs G vs => ∃ v, vs = [v, .int 60] ∧ (rSc K).is G v xs
section
variable {P : Program} {w : World} {K : PySem.W.Frag} {mg : Str → Option Value} {base : Heap}

abbrev N_law_row : List Str := ["_law_cell", "_law_many", "_law_row_here", "_law_rest", "_law_state", "_law_k"]
theorem sc_law_row : FnScope N_law_row ["_law_cell", "_law_many"] (defScope s_law_row) := ⟨rfl, rfl, rfl, by decide +kernel, rfl, by decide +kernel, by decide +kernel⟩
theorem mk_law_row (T : Tx K mg) {sp : Sp} (len : ∀ vs H Q E, sp vs H Q E → vs.length = 2)
    (hb : ∀ (cdv : Value) (A : Around) (outer : List Env) (s : Shared) (H : Hp) (vs : List V) (Q : VK) (E : XK), Room 0 (A.deeper (envOfC "_law_row" (defScope s_law_row) s.heap.objs.size (He.ga K "_law_row") cdv)) → sp vs H Q E →
      ∃ t, PSs (cxOf CX0 P w K mg base N_law_row "_law_row" (defScope s_law_row) (He.ga K "_law_row") cdv A outer s H E).nox (defBody s_law_row) t ∧ t { nx := fun _ H' => Q .non H', rt := Q } (start N_law_row vs) H) : Cal P w K mg base 1 "_law_row" sp := by
  obtain ⟨fd, F⟩ := T.fn 55 rfl
  have b : Binds K fd ["_law_cell", "_law_many"] [] := F.binds fun _ _ _ _ _ _ us hl => match us, hl with | [_, _], _ => rfl
  exact ⟨_, fd, _, F.ok sc_law_row len hb, T.glo 31 rfl, F.kp, b⟩
def sp_law_row (K : PySem.W.Frag) : Sp := mkSp (aRow) (rL FW.rI) (fun i y => y.length = i.2 ∧ ∀ x ∈ y, NumOk x)
theorem ln_law_row {K : PySem.W.Frag} : ∀ vs H Q E, sp_law_row K vs H Q E → vs.length = 2 := by
  rintro vs H Q E ⟨G, i, e, h, _⟩
  have h : (aRow) i G vs := h
  obtain ⟨_, rfl⟩ := h; rfl
theorem ok_law_row (T : Tx K mg) : Cal P w K mg base 1 "_law_row" (sp_law_row K) := mk_law_row T ln_law_row (fun cdv A outer s H vs Q E hr h => by
  have hu := hu_of hr
  have nd := sc_law_row.nd
  obtain ⟨G, i, e, ha, q⟩ := h
  refine ⟨_, pss_cons (ps_set (i := 2) nd rfl (Or.inl rfl) (pe_lst (pa_nil)))
      (pss_cons (ps_set (i := 3) nd rfl (Or.inl rfl) (pe_int))
      (pss_cons (ps_if (pt_cmpR op_ge (pe_callB call_abs (by rfl) (T.free 85 rfl) (by decide +kernel) (pa_cons (pv 0) pa_nil)) (pe_op op_pow (pe_int) (pe_int)) (nomark _)) (pss_one (ps_set (i := 3) nd rfl (Or.inl rfl) (pe_callB call_abs (by rfl) (T.free 85 rfl) (by decide +kernel) (pa_cons (pv 0) pa_nil)))) (pss_nil))
      (pss_cons (ps_set (i := 4) nd rfl (Or.inl rfl) (pe_op op_mod (pe_callTy call_int1 (by rfl) (T.free 86 rfl) (by decide +kernel) (pa_cons (pe_callB call_abs (by rfl) (T.free 85 rfl) (by decide +kernel) (pa_cons (pv 0) pa_nil)) pa_nil)) (pe_int)))
      (pss_cons (ps_for PassesOwn.never rfl (pi_range1 rfl (T.free 75 rfl) (pa_cons (pv 1) pa_nil)) (pg_name (i := 5) nd rfl (Or.inl rfl)) (pss_cons (ps_set (i := 4) nd rfl (Or.inl rfl) (pe_op op_mod (pe_callTy call_int1 (by rfl) (T.free 86 rfl) (by decide +kernel) (pa_cons (pe_op op_add (pe_op op_mul (pe_op op_add (pv 4) (pe_int)) (pe_int)) (pe_op op_mul (pe_int) (pv 5))) pa_nil)) (pe_int)))
      (pss_one (ps_if (pt_cmpR op_gt (pv 3) (pe_int) (nomark _)) (pss_cons (ps_expr (pe_bm PySem.F.plainAttrs_list PySem.F.slot_list_append PySem.F.type_list_append mt_append (pv 2) (pa_cons (pe_op op_mod (pe_callTy call_int1 (by rfl) (T.free 86 rfl) (by decide +kernel) (pa_cons (pv 3) pa_nil)) (pe_int)) pa_nil)))
      (pss_one (ps_set (i := 3) nd rfl (Or.inl rfl) (pe_op op_fdiv (pv 3) (pe_int))))) (pss_one (ps_expr (pe_bm PySem.F.plainAttrs_list PySem.F.slot_list_append PySem.F.type_list_append mt_append (pv 2) (pa_cons (pe_op op_mod (pe_callTy call_int1 (by rfl) (T.free 86 rfl) (by decide +kernel) (pa_cons (pe_op op_fdiv (pv 4) (pe_int)) pa_nil)) (pe_int)) pa_nil))))))))
      (pss_one (ps_ret (pv 2))))))), ?_⟩
  obtain ⟨cell, many⟩ := i
  obtain ⟨hmany, rfl⟩ := ha
  dsimp only at q hmany
  have absnn : 0 ≤ (if cell < 0 then -cell else cell) := by split <;> omega
  generalize hab : (if cell < 0 then -cell else cell) = ab at absnn
  have numok : ∀ x : Int, NumOk (x % 1009) := fun x => ⟨Int.emod_nonneg _ (by decide), Int.emod_lt_of_pos _ (by decide)⟩
  refine q_newL e fun l H1 n1 own1 => ?_
  refine q_asg (R := FW.rI) (x := 0) ev_int n1.s fun u2 G2 H2 n2 r2 => ?_
  cases r2
  refine q_ifI (b := decide ((10 : Int) ^ (18 : Int).toNat ≤ ab)) (x := ab) (x0 := 0) (et_test (ev_cmpI (r := fun i j => decide (j ≤ i)) (ev_val (ev_abs (ev_var rfl rfl)) hab) (ev_Ic (C := CPow) (g := fun i j => V.int (i ^ j.toNat)) (T := FW.rI) (z := (10 : Int) ^ (18 : Int).toNat) ev_int ev_int ⟨by decide, by decide, by decide⟩ fun _ => rfl))) rfl (fun _ => ev_val (ev_abs (ev_var rfl rfl)) hab) n2.s fun rest G3 H3 n3 hrest => ?_
  have hr0 : 0 ≤ rest := by rw [hrest]; split; exact absnn; exact Int.le_refl _
  refine q_asg (R := FW.rI) (ev_modI (ev_int1 (ev_val (ev_abs (ev_var rfl rfl)) hab)) ev_int (by decide)) n3.s fun u4 G4 H4 n4 r4 => ?_
  cases r4
  have hs0 : 0 ≤ ab % 2147483647 := Int.emod_nonneg _ (by decide)
  have hs1 : ab % 2147483647 < 2147483647 := Int.emod_lt_of_pos _ (by decide)
  generalize hst : ab % 2147483647 = st at hs0 hs1
  refine q_for (ei_range1 (n := many) (ev_var rfl rfl) (by omega)) n4.s (fun xs G5 H5 hx n5 => ?_)
  subst hx
  refine ⟨fun k σ' G' H' => Nxt G H G' H' ∧ ∃ (us : List V) (ys : List Int) (rest st : Int), 0 ≤ rest ∧ 0 ≤ st ∧ st < 2147483647 ∧ (∃ a, σ' = [some (.int cell), some (.int (many : Int)), some (.ref l), some (.int rest), some (.int st), a]) ∧ Own H G' H' l (.lst us) ∧ Pd (FW.rI.is G') us ys ∧ ys.length = k ∧ ∀ x ∈ ys, NumOk x,
    ⟨(((n1.trans n2).trans n3).trans n4).trans n5, [], [], rest, st, hr0, hs0, hs1, ⟨_, rfl⟩, ((((own1.nxt n2).nxt n3).nxt n4).nxt n5), .nil, rfl, by simp⟩, ?_, ?_⟩
  · rintro k x σ' G' H' hx e1 e2 ⟨nn, us, ys, rest, st, h1, h2, h3, ⟨a, rfl⟩, own, pu, hlen, hok⟩ w1 G6 H6 n6 rfl
    have hk := (List.getElem?_eq_some_iff.mp hx).1
    rw [List.length_range] at hk
    rw [List.getElem?_range hk] at hx
    cases hx
    refine q_asg (R := FW.rI) (ev_modI (ev_int1 (ev_addI (ev_mulI (ev_addI (ev_var rfl rfl) ev_int) ev_int (.inl ⟨by omega, by omega⟩)) (ev_mulI ev_int (ev_N (ev_var rfl rfl)) (.inl ⟨by decide, by decide⟩)))) ev_int (by decide)) n6.s fun u7 G7 H7 n7 r7 => ?_
    cases r7
    have hs0 : 0 ≤ ((st + 1) * 48271 + 69621 * (k : Int)) % 2147483647 := Int.emod_nonneg _ (by decide)
    have hs1 : ((st + 1) * 48271 + 69621 * (k : Int)) % 2147483647 < 2147483647 := Int.emod_lt_of_pos _ (by decide)
    generalize ((st + 1) * 48271 + 69621 * (k : Int)) % 2147483647 = st2 at hs0 hs1
    have pul := pd_len pu
    have nn7 := (nn.trans n6).trans n7
    have own7 := (own.nxt n6).nxt n7
    refine s_if (b := decide (0 < rest)) (et_test (ev_cmpI (r := fun i j => decide (j < i)) (ev_var rfl rfl) ev_int)) n7.s (fun hb G8 H8 n8 => ?_) (fun hb G8 H8 n8 => ?_)
    · refine q_app (own7.nxt n8) rfl (R := FW.rI) (PA := fun y => y = rest % 1009) (ev_modI (ev_int1 (ev_var rfl rfl)) ev_int (by decide)) n8.s (by omega) fun v9 G9 H9 y n9 r9 p9 own9 => ?_
      subst p9
      refine s_asg (R := FW.rI) (x := rest / 1009) (ev_divI (ev_var rfl rfl) ev_int (by decide) (by decide)) (n9.s.mut own9.g) fun v10 G10 H10 n10 r10 => ?_
      cases r10
      refine ⟨G10, (e1.trans n6.g).trans ((n7.g.trans n8.g).trans (n9.g.trans n10.g)), n10.s, (((nn7.trans n8).trans n9).mut own9.s own9.g).trans n10, us ++ [v9], ys ++ [rest % 1009], rest / 1009, st2, Int.ediv_nonneg h1 (by decide), hs0, hs1, ⟨_, rfl⟩, own9.nxt n10, pd_snoc pu r9, ?_, fun y hy => ?_⟩
      · rw [List.length_append, hlen]; rfl
      · rcases List.mem_append.mp hy with hy | hy
        · exact hok y hy
        · rw [List.mem_singleton.mp hy]; exact numok _
    · refine s_app (own7.nxt n8) rfl (R := FW.rI) (PA := fun y => y = st2 / 2048 % 1009) (ev_modI (ev_int1 (ev_divI (ev_var rfl rfl) ev_int (by decide) (by decide))) ev_int (by decide)) n8.s (by omega) fun v9 G9 H9 y n9 r9 p9 own9 => ?_
      subst p9
      refine ⟨G9, (e1.trans n6.g).trans ((n7.g.trans n8.g).trans n9.g), n9.s.mut own9.g, ((nn7.trans n8).trans n9).mut own9.s own9.g, us ++ [v9], ys ++ [st2 / 2048 % 1009], rest, st2, h1, hs0, hs1, ⟨_, rfl⟩, own9, pd_snoc pu r9, ?_, fun y hy => ?_⟩
      · rw [List.length_append, hlen]; rfl
      · rcases List.mem_append.mp hy with hy | hy
        · exact hok y hy
        · rw [List.mem_singleton.mp hy]; exact numok _
  · rintro σ' G' H' e1 e2 ⟨nn, us, ys, rest, st, h1, h2, h3, ⟨a, rfl⟩, own, pu, hlen, hok⟩
    rw [List.length_range] at hlen
    exact s_retL nn own (Ex.refl _) pu rfl fun u5 G5 H5 n5 r5 => q u5 G5 H5 ys n5 r5 ⟨hlen, hok⟩)
abbrev N_law_numbers : List Str := ["_law_script", "_law_many", "_law_cells", "_law_each", "_law_numbers_here", "_law_cell", "_law_number"]
theorem sc_law_numbers : FnScope N_law_numbers ["_law_script", "_law_many"] (defScope s_law_numbers) := ⟨rfl, rfl, rfl, by decide +kernel, rfl, by decide +kernel, by decide +kernel⟩
theorem mk_law_numbers (T : Tx K mg) {sp : Sp} (len : ∀ vs H Q E, sp vs H Q E → vs.length = 2)
    (hb : ∀ (cdv : Value) (A : Around) (outer : List Env) (s : Shared) (H : Hp) (vs : List V) (Q : VK) (E : XK), Room 1 (A.deeper (envOfC "_law_numbers" (defScope s_law_numbers) s.heap.objs.size (He.ga K "_law_numbers") cdv)) → sp vs H Q E →
      ∃ t, PSs (cxOf CX0 P w K mg base N_law_numbers "_law_numbers" (defScope s_law_numbers) (He.ga K "_law_numbers") cdv A outer s H E).nox (defBody s_law_numbers) t ∧ t { nx := fun _ H' => Q .non H', rt := Q } (start N_law_numbers vs) H) : Cal P w K mg base 2 "_law_numbers" sp := by
  obtain ⟨fd, F⟩ := T.fn 56 rfl
  have b : Binds K fd ["_law_script", "_law_many"] [] := F.binds fun _ _ _ _ _ _ us hl => match us, hl with | [_, _], _ => rfl
  exact ⟨_, fd, _, F.ok sc_law_numbers len hb, T.glo 32 rfl, F.kp, b⟩
def sp_law_numbers (K : PySem.W.Frag) : Sp := mkSp (aNum K) (rL FW.rI) (fun i y => y.length = 60 ∧ ∀ x ∈ y, NumOk x)
theorem ln_law_numbers {K : PySem.W.Frag} : ∀ vs H Q E, sp_law_numbers K vs H Q E → vs.length = 2 := by
  rintro vs H Q E ⟨G, i, e, h, _⟩
  have h : (aNum K) i G vs := h
  obtain ⟨v, rfl, _⟩ := h; rfl
theorem ok_law_numbers (T : Tx K mg) : Cal P w K mg base 2 "_law_numbers" (sp_law_numbers K) := mk_law_numbers T ln_law_numbers (fun cdv A outer s H vs Q E hr h => by
  have hu := hu_of hr
  have nd := sc_law_numbers.nd
  obtain ⟨G, i, e, ha, q⟩ := h
  refine ⟨_, pss_cons (ps_set (i := 2) nd rfl (Or.inl rfl) (pe_slice (k_slL (K := K) rfl) (pv 0) po_none (po_some (pe_int))))
      (pss_cons (ps_set (i := 3) nd rfl (Or.inl rfl) (pe_op op_add (pe_int) (pe_op op_fdiv (pv 1) (pe_callB (call_max2 rfl) (by rfl) (T.free 76 rfl) (by decide +kernel) (pa_cons (pe_int) (pa_cons (pe_callB (k_len (K := K) rfl) (by rfl) (T.free 74 rfl) (by decide +kernel) (pa_cons (pv 2) pa_nil)) pa_nil))))))
      (pss_cons (ps_set (i := 4) nd rfl (Or.inl rfl) (pe_lst (pa_nil)))
      (pss_cons (ps_for PassesOwn.never rfl (k_iList (K := K) rfl (pv 2)) (pg_name (i := 5) nd rfl (Or.inl rfl)) (pss_one (ps_for PassesOwn.never rfl (k_iList (K := K) rfl (pe_c (ok_law_row T) hr (pa_cons (pv 5) (pa_cons (pv 3) pa_nil)))) (pg_name (i := 6) nd rfl (Or.inl rfl)) (pss_one (ps_expr (pe_bm PySem.F.plainAttrs_list PySem.F.slot_list_append PySem.F.type_list_append mt_append (pv 4) (pa_cons (pv 6) pa_nil)))))))
      (pss_cons (ps_while PassesOwn.never (pt_cmpR op_lt (pe_callB (k_len (K := K) rfl) (by rfl) (T.free 74 rfl) (by decide +kernel) (pa_cons (pv 4) pa_nil)) (pv 1) (nomark _)) (pss_one (ps_expr (pe_bm PySem.F.plainAttrs_list PySem.F.slot_list_append PySem.F.type_list_append mt_append (pv 4) (pa_cons (pe_int) pa_nil)))))
      (pss_one (ps_ret (pe_slice (k_slL (K := K) rfl) (pv 4) po_none (po_some (pv 1))))))))), ?_⟩
  obtain ⟨v, rfl, hv⟩ := ha
  refine q_asg (R := rL FW.rI) (x := i.take 63) (ev_takeSc (k := 63) (ev_var rfl hv) ev_int) e fun vc G1 H1 n1 rc => ?_
  have hcl : (i.take 63).length ≤ 63 := by rw [List.length_take]; omega
  generalize hcs : i.take 63 = cs at hcl rc
  have hmx : (1 : Int) ≤ (if (cs.length : Int) > 1 then (cs.length : Int) else 1) ∧ (if (cs.length : Int) > 1 then (cs.length : Int) else 1) < 1073741824 := by split <;> omega
  generalize hm : (if (cs.length : Int) > 1 then (cs.length : Int) else 1) = mx at hmx
  have hq0 : 0 ≤ 60 / mx := Int.ediv_nonneg (by decide) (by omega)
  have hq1 : 60 / mx ≤ 60 := Int.ediv_le_self _ (by decide)
  refine q_asg (R := FW.rI) (x := (((60 / mx).toNat + 1 : Nat) : Int)) (ev_val (ev_addI ev_int (ev_divI (ev_var rfl rfl) (ev_val (ev_max2 ev_int (ev_N (ev_len (ev_var rfl rc)))) hm) (by omega) (by omega))) (by omega)) n1.s fun u2 G2 H2 n2 r2 => ?_
  cases r2
  generalize heach : (60 / mx).toNat + 1 = each
  have heach61 : each ≤ 61 := by omega
  have n12 := n1.trans n2
  refine q_newL n2.s fun l H3 n3 own3 => ?_
  have rc3 := (rL FW.rI).ex n2.g rc
  refine q_for (ei_list (R := FW.rI) (P := fun ys => ys = cs) (ev_var rfl rc3)) n3.s (fun xs G4 H4 hx n4 => ?_)
  subst hx
  refine ⟨fun k σ' G' H' => Nxt G H G' H' ∧ (∃ a b, σ' = [some v, some (.int 60), some vc, some (.int (each : Int)), some (.ref l), a, b]) ∧ ∃ us ys, Own H2 G' H' l (.lst us) ∧ Pd (FW.rI.is G') us ys ∧ ys.length ≤ k * 61 ∧ ∀ x ∈ ys, NumOk x, ⟨(n12.trans n3).trans n4, ⟨_, _, rfl⟩, [], [], own3.nxt n4, .nil, by simp, by simp⟩, ?_, ?_⟩
  · rintro k x σ' G' H' hx e1 e2 ⟨nn, ⟨a, b, rfl⟩, us, ys, own, pu, hlen, hok⟩ w1 G5 H5 n5 rfl
    have hk : k < xs.length := (List.getElem?_eq_some_iff.mp hx).1
    refine s_for (ei_list (R := FW.rI) (P := fun zs => zs.length = each ∧ ∀ x ∈ zs, NumOk x) (ev_call2 (R := FW.rI) (S := rN) (PA := fun y => y = x) (PB := fun y => y = each) (ev_var rfl rfl) (ev_var rfl rfl) fun G6 v1 x1 w2 y1 e6 r1 p1 r2 p2 => ?_)) n5.s (fun zs G6 H6 hz n6 => ?_)
    · subst p1 p2
      cases r1; cases r2
      exact mkSp_use (args := aRow) (x1, y1) ⟨heach61, rfl⟩
    refine ⟨fun j σ' G' H' => Nxt G H G' H' ∧ (∃ b, σ' = [some v, some (.int 60), some vc, some (.int (each : Int)), some (.ref l), some (.int x), b]) ∧ ∃ us ys, Own H2 G' H' l (.lst us) ∧ Pd (FW.rI.is G') us ys ∧ ys.length ≤ k * 61 + j ∧ ∀ x ∈ ys, NumOk x, ⟨(nn.trans n5).trans n6, ⟨_, rfl⟩, us, ys, (own.nxt n5).nxt n6, pu, by omega, hok⟩, ?_, ?_⟩
    · rintro j y σ' G' H' hy e3 e4 ⟨nn2, ⟨b, rfl⟩, us, ys, own, pu, hlen, hok⟩ w2 G7 H7 n7 rfl
      have hj : j < zs.length := (List.getElem?_eq_some_iff.mp hy).1
      have hz1 := hz.1
      have pul := pd_len pu
      refine s_app (own.nxt n7) rfl (R := FW.rI) (PA := fun z => z = y) (ev_var rfl rfl) n7.s (by omega) fun v9 G9 H9 z n9 r9 p9 own9 => ?_
      subst p9
      refine ⟨G9, (e3.trans n7.g).trans n9.g, n9.s.mut own9.g, ((nn2.trans n7).trans n9).mut (n12.h.free own9.s) own9.g, ⟨_, rfl⟩, us ++ [v9], ys ++ [z], own9, pd_snoc pu r9, ?_, fun c hc => ?_⟩
      · rw [List.length_append, List.length_singleton]; omega
      · rcases List.mem_append.mp hc with hc | hc
        · exact hok c hc
        · rw [List.mem_singleton.mp hc]; exact hz.2 z (List.mem_of_getElem? hy)
    · rintro σ' G' H' e3 e4 ⟨nn2, ⟨b, rfl⟩, us, ys, own, pu, hlen, hok⟩
      have hz1 := hz.1
      exact ⟨G', (e1.trans n5.g).trans (n6.g.trans e3), e4, nn2, ⟨_, _, rfl⟩, us, ys, own, pu, by omega, hok⟩
  · rintro σ' G' H' e1 e2 ⟨nn, ⟨a, b, rfl⟩, us, ys, own, pu, hlen, hok⟩
    refine q_while (m0 := 60 - ys.length) (Pv := fun m σ' G' H' => Nxt G H G' H' ∧ σ' = [some v, some (.int 60), some vc, some (.int (each : Int)), some (.ref l), a, b] ∧ ∃ us ys, Own H2 G' H' l (.lst us) ∧ Pd (FW.rI.is G') us ys ∧ ys.length ≤ 4000 ∧ (∀ x ∈ ys, NumOk x) ∧ m = 60 - ys.length) e2 ⟨nn, rfl, us, ys, own, pu, by omega, hok, rfl⟩ ?_
    rintro m σ' G5 H5 e3 e4 ⟨nn, rfl, us, ys, own, pu, hlen, hok, rfl⟩
    refine et_own (b := decide (ys.length < 60)) own (et_test (ev_val (ev_cmpI (r := fun i j => decide (i < j)) (ev_N (ev_len (ev_var rfl (own_list own pu e4)))) (ev_var rfl rfl)) (decide_eq_decide.mpr (by omega)))) e4 fun G6 H6 n6 own6 => ?_
    have nn6 := nn.trans n6
    have pul := pd_len pu
    by_cases hlt : ys.length < 60
    · rw [if_pos (decide_eq_true hlt)]
      refine ⟨fun σ3 H4 => ∃ m' G4, m' < 60 - ys.length ∧ Ex G' G4 ∧ Ex G4 H4 ∧ (Nxt G H G4 H4 ∧ σ3 = [some v, some (.int 60), some vc, some (.int (each : Int)), some (.ref l), a, b] ∧ ∃ us ys, Own H2 G4 H4 l (.lst us) ∧ Pd (FW.rI.is G4) us ys ∧ ys.length ≤ 4000 ∧ (∀ x ∈ ys, NumOk x) ∧ m' = 60 - ys.length), fun σ3 H4 ⟨m', G4, h1, h2, h3, h4⟩ => ⟨m', h1, G4, h2, h3, h4⟩, ?_⟩
      refine s_app own6 rfl (R := FW.rI) (PA := fun z => z = 0) ev_int n6.s (by omega) fun v9 G9 H9 z n9 r9 p9 own9 => ?_
      subst p9
      refine ⟨60 - (ys.length + 1), G9, by omega, e3.trans (n6.g.trans n9.g), n9.s.mut own9.g, (nn6.trans n9).mut (n12.h.free own9.s) own9.g, rfl, us ++ [v9], ys ++ [0], own9, pd_snoc pu r9, ?_, fun c hc => ?_, ?_⟩
      · rw [List.length_append, List.length_singleton]; omega
      · rcases List.mem_append.mp hc with hc | hc
        · exact hok c hc
        · rw [List.mem_singleton.mp hc]; exact ⟨by decide, by decide⟩
      · rw [List.length_append, List.length_singleton]
    · rw [if_neg (by rw [decide_eq_true_eq]; exact hlt)]
      refine s_ret (R := rL FW.rI) (ev_takeL (k := 60) (ev_var rfl (own_list own6 pu n6.s)) (ev_var rfl rfl)) (own6.told n6.s) fun v7 G7 H7 n7 r7 => q v7 G7 H7 _ ((nn6.tell (n12.h.free own6.s) own6.h own6.g).trans n7) r7 ⟨?_, fun c hc => hok c (List.mem_of_mem_take hc)⟩
      rw [List.length_take]; omega)
end
end FW
/-! law_log. -/
namespace FW
open PySem PySem.Spec PyProof.Rows L2 Hd
def sIt0 : List Str := ["a", "b", "it3", "c4", "z", "0"]
def sJn0 : List Str := ["ann", "b", "7"]
def sDr0 : List RB.Drift := [.rises, .falls, .rises, .falls, .stays]
theorem it0_ok : ∀ x ∈ sIt0, NameOk x := by
  have h : (sIt0.all fun x => decide (1 ≤ x.length) && decide (x.length ≤ 12) && x.cps.toList.all fun c => decide (c ∈ lettersCps)) = true := by decide +kernel
  intro x hx
  have := List.all_eq_true.mp h x hx
  rw [Bool.and_eq_true, Bool.and_eq_true, decide_eq_true_eq, decide_eq_true_eq, List.all_eq_true] at this
  exact ⟨this.1.1, this.1.2, fun c hc => of_decide_eq_true (this.2 c hc)⟩
theorem jn0_ok : ∀ x ∈ sJn0, NameOk x := by
  have h : (sJn0.all fun x => decide (1 ≤ x.length) && decide (x.length ≤ 12) && x.cps.toList.all fun c => decide (c ∈ lettersCps)) = true := by decide +kernel
  intro x hx
  have := List.all_eq_true.mp h x hx
  rw [Bool.and_eq_true, Bool.and_eq_true, decide_eq_true_eq, decide_eq_true_eq, List.all_eq_true] at this
  exact ⟨this.1.1, this.1.2, fun c hc => of_decide_eq_true (this.2 c hc)⟩
theorem it0_nd : sIt0.Nodup := by decide +kernel
theorem jn0_nd : sJn0.Nodup := by decide +kernel
theorem ev_dfS {te : TE} {σ : L2.St} {G : Hp} {d : RB.Drift} (h : EvD rDf te σ G d) : EvD rS te σ G (dStr d) := h.as fun G2 v x e r p => ⟨dStr x, r, by rw [p]⟩
theorem dfs_pd {G : Hp} : ∀ ds : List RB.Drift, Pd (rDf.is G) (ds.map fun d => V.str (dStr d)) ds
  | [] => .nil
  | _ :: r => .cons rfl (dfs_pd r)
abbrev aLl : List Int → Hp → List V → Prop := fun xs G vs => (xs.length = 60 ∧ ∀ x ∈ xs, NumOk x) ∧ ∃ v, vs = [v, .int 0, .int 6, .int 20] ∧ (rL FW.rI).is G v xs
section
variable {P : Program} {w : World} {K : PySem.W.Frag} {mg : Str → Option Value} {base : Heap}

abbrev N_law_log : List Str := ["_law_numbers_here", "_law_at", "_law_most_items", "_law_most_events", "_law_items", "_law_grades", "_law_judges", "_law_k", "_law_hidden", "_law_events", "_law_value", "_law_judge", "_law_kind", "_law_place", "_law_bar", "_law_grade"]
theorem sc_law_log : FnScope N_law_log ["_law_numbers_here", "_law_at", "_law_most_items", "_law_most_events"] (defScope s_law_log) := ⟨rfl, rfl, rfl, by decide +kernel, rfl, by decide +kernel, by decide +kernel⟩
theorem mk_law_log (T : Tx K mg) {sp : Sp} (len : ∀ vs H Q E, sp vs H Q E → vs.length = 4)
    (hb : ∀ (cdv : Value) (A : Around) (outer : List Env) (s : Shared) (H : Hp) (vs : List V) (Q : VK) (E : XK), Room 0 (A.deeper (envOfC "_law_log" (defScope s_law_log) s.heap.objs.size (He.ga K "_law_log") cdv)) → sp vs H Q E →
      ∃ t, PSs (cxOf CX0 P w K mg base N_law_log "_law_log" (defScope s_law_log) (He.ga K "_law_log") cdv A outer s H E).nox (defBody s_law_log) t ∧ t { nx := fun _ H' => Q .non H', rt := Q } (start N_law_log vs) H) : Cal P w K mg base 1 "_law_log" sp := by
  obtain ⟨fd, F⟩ := T.fn 57 rfl
  have b : Binds K fd ["_law_numbers_here", "_law_at", "_law_most_items", "_law_most_events"] [] := F.binds fun _ _ _ _ _ _ us hl => match us, hl with | [_, _, _, _], _ => rfl
  exact ⟨_, fd, _, F.ok sc_law_log len hb, T.glo 33 rfl, F.kp, b⟩
def sp_law_log (K : PySem.W.Frag) : Sp := mkSp (aLl) (rParts) (fun i y => ∃ L : Log, WfL L ∧ L.events.length ≤ 20 ∧ y = (L.items, L.grades, L.judges, L.events))
theorem ln_law_log {K : PySem.W.Frag} : ∀ vs H Q E, sp_law_log K vs H Q E → vs.length = 4 := by
  rintro vs H Q E ⟨G, i, e, h, _⟩
  have h : (aLl) i G vs := h
  obtain ⟨_, v, rfl, _⟩ := h; rfl
theorem ok_law_log (T : Tx K mg) : Cal P w K mg base 1 "_law_log" (sp_law_log K) := mk_law_log T ln_law_log (fun cdv A outer s H vs Q E hr h => by
  have hu := hu_of hr
  have nd := sc_law_log.nd
  obtain ⟨G, i, e, ha, q⟩ := h
  refine ⟨_, pss_cons (ps_set (i := 4) nd rfl (Or.inl rfl) (pe_slice (k_slL (K := K) rfl) (pe_lst (pa_cons (pe_str) (pa_cons (pe_str) (pa_cons (pe_str) (pa_cons (pe_str) (pa_cons (pe_str) (pa_cons (pe_str) pa_nil))))))) po_none (po_some (pe_op op_add (pe_int) (pe_op op_mod (pe_callTy call_int1 (by rfl) (T.free 86 rfl) (by decide +kernel) (pa_cons (pe_ix (k_ixL (K := K) rfl) (pv 0) (pv 1) (fun _ _ => rfl)) pa_nil)) (pv 2))))))
      (pss_cons (ps_set (i := 5) nd rfl (Or.inl rfl) (pe_ix (k_ixL (K := K) rfl) (pe_lst (pa_cons (pe_int) (pa_cons (pe_int) (pa_cons (pe_int) (pa_cons (pe_int) (pa_cons (pe_int) pa_nil)))))) (pe_op op_mod (pe_callTy call_int1 (by rfl) (T.free 86 rfl) (by decide +kernel) (pa_cons (pe_ix (k_ixL (K := K) rfl) (pv 0) (pe_op op_add (pv 1) (pe_int)) (fun _ _ => rfl)) pa_nil)) (pe_int)) (fun _ _ => rfl)))
      (pss_cons (ps_set (i := 6) nd rfl (Or.inl rfl) (pe_lst (pa_nil)))
      (pss_cons (ps_for PassesOwn.never rfl (pi_range1 rfl (T.free 75 rfl) (pa_cons (pe_op op_add (pe_int) (pe_op op_mod (pe_callTy call_int1 (by rfl) (T.free 86 rfl) (by decide +kernel) (pa_cons (pe_ix (k_ixL (K := K) rfl) (pv 0) (pe_op op_add (pv 1) (pe_int)) (fun _ _ => rfl)) pa_nil)) (pe_int))) pa_nil)) (pg_name (i := 7) nd rfl (Or.inl rfl)) (pss_one (ps_expr (pe_bm PySem.F.plainAttrs_list PySem.F.slot_list_append PySem.F.type_list_append mt_append (pv 6) (pa_cons (pe_tup (pa_cons (pe_ix (k_ixL (K := K) rfl) (pe_lst (pa_cons (pe_str) (pa_cons (pe_str) (pa_cons (pe_str) pa_nil)))) (pv 7) (fun _ _ => rfl)) (pa_cons (pe_ix (k_ixL (K := K) rfl) (pe_lst (pa_cons (pe_str) (pa_cons (pe_str) (pa_cons (pe_str) (pa_cons (pe_str) (pa_cons (pe_str) pa_nil)))))) (pe_op op_mod (pe_callTy call_int1 (by rfl) (T.free 86 rfl) (by decide +kernel) (pa_cons (pe_ix (k_ixL (K := K) rfl) (pv 0) (pe_op op_add (pe_op op_add (pv 1) (pe_int)) (pv 7)) (fun _ _ => rfl)) pa_nil)) (pe_int)) (fun _ _ => rfl)) pa_nil))) pa_nil)))))
      (pss_cons (ps_setLc (i := 8) (own := [("_law_k", 7)]) (g := (gName 7)) (tt := tYes) rfl nd rfl rfl (sw_true rfl rfl rfl (by decide +kernel)) (pi_range1 rfl (T.free 75 rfl) (pa_cons (pe_callB (k_len (K := K) rfl) (by rfl) (T.free 74 rfl) (by decide +kernel) (pa_cons (pv 4) pa_nil)) pa_nil)) (blkOk_by (by kernel_rfl)) (fun _ _ _ _ _ => pg_name (i := 7) nd rfl (by first | exact Or.inl rfl | exact Or.inr rfl)) (fun _ _ _ _ _ => pts_nil) (fun _ _ _ _ _ => pe_op op_mod (pe_callTy call_int1 (by rfl) (T.free 86 rfl) (by decide +kernel) (pa_cons (pe_ix (k_ixL (K := K) rfl) (pv 0) (pe_op op_add (pe_op op_add (pv 1) (pe_int)) (pv 7)) (fun _ _ => rfl)) pa_nil)) (pe_int)))
      (pss_cons (ps_set (i := 9) nd rfl (Or.inl rfl) (pe_lst (pa_nil)))
      (pss_cons (ps_for PassesOwn.never rfl (pi_range1 rfl (T.free 75 rfl) (pa_cons (pe_op op_mod (pe_callTy call_int1 (by rfl) (T.free 86 rfl) (by decide +kernel) (pa_cons (pe_ix (k_ixL (K := K) rfl) (pv 0) (pe_op op_add (pv 1) (pe_int)) (fun _ _ => rfl)) pa_nil)) (pe_op op_add (pv 3) (pe_int))) pa_nil)) (pg_name (i := 7) nd rfl (Or.inl rfl)) (pss_cons (ps_set (i := 10) nd rfl (Or.inl rfl) (pe_callTy call_int1 (by rfl) (T.free 86 rfl) (by decide +kernel) (pa_cons (pe_ix (k_ixL (K := K) rfl) (pv 0) (pe_op op_add (pe_op op_add (pv 1) (pe_int)) (pv 7)) (fun _ _ => rfl)) pa_nil)))
      (pss_cons (ps_set (i := 11) nd rfl (Or.inl rfl) (pe_ix (k_ixL (K := K) rfl) (pv 6) (pe_op op_mod (pe_callTy call_int1 (by rfl) (T.free 86 rfl) (by decide +kernel) (pa_cons (pv 10) pa_nil)) (pe_callB (k_len (K := K) rfl) (by rfl) (T.free 74 rfl) (by decide +kernel) (pa_cons (pv 6) pa_nil))) (fun _ _ => rfl)))
      (pss_cons (ps_set (i := 12) nd rfl (Or.inl rfl) (pe_op op_mod (pe_callTy call_int1 (by rfl) (T.free 86 rfl) (by decide +kernel) (pa_cons (pe_op op_fdiv (pv 10) (pe_int)) pa_nil)) (pe_int)))
      (pss_cons (ps_set (i := 13) nd rfl (Or.inl rfl) (pe_op op_mod (pe_callTy call_int1 (by rfl) (T.free 86 rfl) (by decide +kernel) (pa_cons (pe_op op_fdiv (pv 10) (pe_int)) pa_nil)) (pe_callB (k_len (K := K) rfl) (by rfl) (T.free 74 rfl) (by decide +kernel) (pa_cons (pv 4) pa_nil))))
      (pss_cons (ps_set (i := 14) nd rfl (Or.inl rfl) (pv 7))
      (pss_cons (ps_if (pt_cmpR op_eq (pe_ix (k_ixT (K := K) rfl) (pv 11) (pe_int) (fun _ _ => rfl)) (pe_str) (nomark _)) (pss_one (ps_set (i := 14) nd rfl (Or.inl rfl) (pe_op op_sub (pv 3) (pv 7)))) (pss_nil))
      (pss_cons (ps_set (i := 15) nd rfl (Or.inl rfl) (pe_callB (call_max2 rfl) (by rfl) (T.free 76 rfl) (by decide +kernel) (pa_cons (pe_int) (pa_cons (pe_callB (call_min2 rfl) (by rfl) (T.free 77 rfl) (by decide +kernel) (pa_cons (pv 5) (pa_cons (pe_op op_sub (pe_ix (k_ixL (K := K) rfl) (pv 8) (pv 13) (fun _ _ => rfl)) (pe_callTy call_int1 (by rfl) (T.free 86 rfl) (by decide +kernel) (pa_cons (pe_op op_fdiv (pe_op op_mul (pv 14) (pe_int)) (pe_op op_add (pv 3) (pe_int))) pa_nil))) pa_nil))) pa_nil))))
      (pss_one (ps_if (pt_cmpR op_eq (pv 12) (pe_int) (nomark _)) (pss_one (ps_expr (pe_bm PySem.F.plainAttrs_list PySem.F.slot_list_append PySem.F.type_list_append mt_append (pv 9) (pa_cons (pe_tup (pa_cons (pe_str) (pa_cons (pe_ix (k_ixT (K := K) rfl) (pv 11) (pe_int) (fun _ _ => rfl)) pa_nil))) pa_nil)))) (pss_cons (ps_if (PW.pt (pw_or (pt_cmpR op_eq (pv 12) (pe_int) (nomark _)) (pw_or1 (PW.pt (pw_and (pt_cmpR op_eq (pe_ix (k_ixT (K := K) rfl) (pv 11) (pe_int) (fun _ _ => rfl)) (pe_str) (nomark _)) (pw_and1 (pt_cmpR op_lt (pv 12) (pe_int) (nomark _)))))))) (pss_one (ps_set (i := 15) nd rfl (Or.inl rfl) (pe_op op_mod (pe_callTy call_int1 (by rfl) (T.free 86 rfl) (by decide +kernel) (pa_cons (pe_op op_fdiv (pv 10) (pe_int)) pa_nil)) (pe_op op_add (pv 5) (pe_int))))) (pss_nil))
      (pss_one (ps_expr (pe_bm PySem.F.plainAttrs_list PySem.F.slot_list_append PySem.F.type_list_append mt_append (pv 9) (pa_cons (pe_tup (pa_cons (pe_str) (pa_cons (pe_ix (k_ixT (K := K) rfl) (pv 11) (pe_int) (fun _ _ => rfl)) (pa_cons (pe_ix (k_ixL (K := K) rfl) (pv 4) (pv 13) (fun _ _ => rfl)) (pa_cons (pv 15) pa_nil))))) pa_nil)))))))))))))))
      (pss_one (ps_ret (pe_tup (pa_cons (pv 4) (pa_cons (pv 5) (pa_cons (pv 6) (pa_cons (pv 9) pa_nil))))))))))))), ?_⟩
  obtain ⟨⟨h60, hnum⟩, v, rfl, hv⟩ := ha
  have nx : ∀ k : Nat, k < 60 → ∃ x, i[k]? = some x ∧ NumOk x := fun k hk => ⟨i[k]'(by omega), List.getElem?_eq_getElem (by omega), hnum _ (List.getElem_mem _)⟩
  have mod_nat : ∀ (x m : Int), 0 < m → ∃ r : Nat, x % m = (r : Int) ∧ (r : Int) < m := fun x m hm => ⟨(x % m).toNat, by have := Int.emod_nonneg x (by omega : m ≠ 0); omega, by have := Int.emod_lt_of_pos x hm; have := Int.emod_nonneg x (by omega : m ≠ 0); omega⟩
  have g0 : ∀ {G2 : Hp} {σ : L2.St} {te : TE} (k : Nat) (x : Int), σ[0]? = some (some v) → Ex G G2 → EvD FW.rI te σ G2 (k : Int) → i[k]? = some x → EvD FW.rI (tOp (rIxL K) (tVar 0) te) σ G2 x := fun k x hσ e2 hte hx => ev_ixL (ev_var hσ ((rL FW.rI).ex e2 hv)) hte hx
  obtain ⟨x0, hx0, ok0⟩ := nx 0 (by omega)
  obtain ⟨x1, hx1, ok1⟩ := nx 1 (by omega)
  obtain ⟨x2, hx2, ok2⟩ := nx 2 (by omega)
  obtain ⟨x12, hx12, ok12⟩ := nx 12 (by omega)
  obtain ⟨r0, hr0, lt0⟩ := mod_nat x0 6 (by decide)
  obtain ⟨r1, hr1, lt1⟩ := mod_nat x1 5 (by decide)
  obtain ⟨r2, hr2, lt2⟩ := mod_nat x2 3 (by decide)
  obtain ⟨r12, hr12, lt12⟩ := mod_nat x12 21 (by decide)
  refine q_asg (R := rL rS) (x := sIt0.take (1 + r0)) (ev_takeL (ev_lstC (vs := sIt0.map V.str) (fun G => strs_pd sIt0) (by decide)) (ev_val (ev_addI ev_int (ev_val (ev_modI (ev_int1 (g0 0 x0 rfl (Ex.refl _) (ev_var rfl rfl) hx0)) (ev_var rfl rfl) (by decide)) hr0)) (by omega))) e fun vi G1 H1 n1 ri => ?_
  have il : (sIt0.take (1 + r0)).length = 1 + r0 := by
    rw [List.length_take]
    show min (1 + r0) 6 = 1 + r0
    omega
  have iok : ∀ x ∈ sIt0.take (1 + r0), NameOk x := fun x hx => it0_ok x (List.mem_of_mem_take hx)
  have ind : (sIt0.take (1 + r0)).Nodup := it0_nd.sublist (List.take_sublist _ _)
  generalize sIt0.take (1 + r0) = items at il iok ind ri
  obtain ⟨gr, hgr⟩ : ∃ g, ([1, 1, 2, 3, 9] : List Int)[r1]? = some g := ⟨_, List.getElem?_eq_getElem (show r1 < 5 by omega)⟩
  have hg19 : 1 ≤ gr ∧ gr ≤ 9 := by
    have := List.mem_of_getElem? hgr
    simp only [List.mem_cons, List.mem_nil_iff, or_false] at this
    omega
  refine q_asg (R := FW.rI) (x := gr) (ev_ixL (ev_lstC (vs := ([1, 1, 2, 3, 9] : List Int).map V.int) (fun G => ints_pd _) (by decide)) (ev_val (ev_modI (ev_int1 (g0 1 x1 rfl n1.g (ev_val (ev_addI (ev_var rfl rfl) ev_int) rfl) hx1)) ev_int (by decide)) hr1) hgr) n1.s fun ug G2 H2 n2 rg => ?_
  cases rg
  have n12 := n1.trans n2
  refine q_newL n2.s fun lj H3 n3 own3 => ?_
  refine q_for (ei_range1 (n := 1 + r2) (ev_val (ev_addI ev_int (ev_val (ev_modI (ev_int1 (g0 2 x2 rfl n12.g (ev_val (ev_addI (ev_var rfl rfl) ev_int) rfl) hx2)) ev_int (by decide)) hr2)) (by omega)) (by omega)) n3.s (fun xs G4 H4 hxs n4 => ?_)
  subst hxs
  refine ⟨fun k σ' G' H' => Nxt G H G' H' ∧ (∃ a, σ' = [some v, some (.int 0), some (.int 6), some (.int 20), some vi, some (.int gr), some (.ref lj), a, none, none, none, none, none, none, none, none]) ∧ ∃ us js, Own H2 G' H' lj (.lst us) ∧ Pd (rJ.is G') us js ∧ js.map (·.1) = sJn0.take k, ⟨(n12.trans n3).trans n4, ⟨_, rfl⟩, [], [], own3.nxt n4, .nil, rfl⟩, ?_, ?_⟩
  · rintro k x σ' G' H' hx e1 e2 ⟨nn, ⟨a, rfl⟩, us, js, own, pu, hjs⟩ w1 G5 H5 n5 rfl
    have hk := (List.getElem?_eq_some_iff.mp hx).1
    rw [List.length_range] at hk
    rw [List.getElem?_range hk] at hx
    cases hx
    obtain ⟨y, hy, oky⟩ := nx (3 + k) (by omega)
    obtain ⟨ry, hry, lty⟩ := mod_nat y 5 (by decide)
    obtain ⟨jn, hjn⟩ : ∃ j, sJn0[k]? = some j := ⟨_, List.getElem?_eq_getElem (show k < 3 by omega)⟩
    obtain ⟨dr, hdr⟩ : ∃ d, sDr0[ry]? = some d := ⟨_, List.getElem?_eq_getElem (show ry < 5 by omega)⟩
    have nn5 := nn.trans n5
    have pul := pd_len pu
    have jl : js.length ≤ 3 := by
      have := congrArg List.length hjs
      rw [List.length_map, List.length_take] at this
      omega
    refine s_app (own.nxt n5) rfl (R := rJ) (PA := fun z => z = (jn, dr)) (ev_tup2D (R := rS) (S := rDf) (ev_ixL (ev_lstC (vs := sJn0.map V.str) (fun G => strs_pd sJn0) (by decide)) (ev_N (ev_var rfl rfl)) hjn) (ev_ixL (ev_lstC (R := rDf) (vs := sDr0.map fun d => V.str (dStr d)) (fun G => dfs_pd sDr0) (by decide)) (ev_val (ev_modI (ev_int1 (g0 (3 + k) y rfl nn5.g (ev_val (ev_addI (ev_addI (ev_var rfl rfl) ev_int) (ev_N (ev_var rfl rfl))) (by omega)) hy)) ev_int (by decide)) hry) hdr)) n5.s (by omega) fun v6 G6 H6 z n6 r6 p6 own6 => ?_
    subst p6
    refine ⟨G6, (e1.trans n5.g).trans n6.g, n6.s.mut own6.g, (nn5.trans n6).mut (n12.h.free own6.s) own6.g, ⟨_, rfl⟩, us ++ [v6], js ++ [(jn, dr)], own6, pd_snoc (pd_mono (fun _ _ => rJ.ex (n5.g.trans n6.g)) pu) r6, ?_⟩
    rw [List.map_append, hjs, List.take_add_one, hjn]; rfl
  rintro σ' G' H' e1 e2 ⟨nn, ⟨a, rfl⟩, us, js, own, pu, hjs⟩
  rw [List.length_range] at hjs
  have jl : js.length = 1 + r2 := by
    have := congrArg List.length hjs
    rw [List.length_map, List.length_take] at this
    rw [this]
    show min (1 + r2) 3 = 1 + r2
    omega
  have jnm : ∀ z ∈ js, NameOk z.1 := fun z hz => by
    have : z.1 ∈ sJn0.take (1 + r2) := hjs ▸ List.mem_map.mpr ⟨z, hz, rfl⟩
    exact jn0_ok _ (List.mem_of_mem_take this)
  have jnd : (js.map (·.1)).Nodup := by rw [hjs]; exact jn0_nd.sublist (List.take_sublist _ _)
  -- the judges, told
  have nj := nn.tell (n12.h.free own.s) own.h own.g
  have rj := own_list own pu e2
  have ej := own.told e2
  clear hjs pu
  generalize hGj : upd G' lj (.lst us) = Gj at nj rj ej
  have ri3 : (rL rS).is Gj vi items := by
    subst hGj
    exact (rL rS).ex ((n2.g.trans n4.g).trans (e1.trans (Ex.new own.g))) ri
  refine q_asgP (R := rL FW.rI) (PA := fun hs => hs.length = 1 + r0) ((ev_lc (R := rN) (S := FW.rI) (PX := fun ys => ys = List.range items.length) (p := fun _ => true) (F := fun _ _ => True) (ei_range1 (ev_N (ev_len (ev_var rfl ri3))) (by omega)) fun ys hys => ?_).imp fun hs hh => ?_) ej fun vh G6 H6 hs n6 rh hhl => ?_
  · subst hys
    refine ⟨by rw [List.length_range]; omega, fun x hx G7 u e7 r => ?_⟩
    cases r
    have hxl := List.mem_range.mp hx
    obtain ⟨y, hy, oky⟩ := nx (6 + x) (by omega)
    exact ⟨_, tg_name, rfl, et_yes, fun _ => (ev_modI (ev_int1 (g0 (6 + x) y rfl (nj.g.trans e7) (ev_val (ev_addI (ev_addI (ev_var rfl rfl) ev_int) (ev_N (ev_var rfl rfl))) (by omega)) hy)) ev_int (by decide)).imp fun _ _ => trivial⟩
  · obtain ⟨ys, rfl, hp⟩ := hh
    have := pd_len hp
    rw [List.filter_eq_self.mpr (fun _ _ => rfl), List.length_range] at this
    omega
  have n06 := nj.trans n6
  refine q_newL n6.s fun le H7 n7 own7 => ?_
  refine q_for (ei_range1 (n := r12) (ev_val (ev_modI (ev_int1 (g0 12 x12 rfl n06.g (ev_val (ev_addI (ev_var rfl rfl) ev_int) rfl) hx12)) (ev_addI (ev_var rfl rfl) ev_int) (by decide)) hr12) (by omega)) n7.s (fun xs G8 H8 hxs n8 => ?_)
  subst hxs
  refine ⟨fun k σ' G' H' => Nxt G H G' H' ∧ (∃ a b c d f m n, σ' = [some v, some (.int 0), some (.int 6), some (.int 20), some vi, some (.int gr), some (.ref lj), a, some vh, some (.ref le), b, c, d, f, m, n]) ∧ ∃ us es, Own H6 G' H' le (.lst us) ∧ Pd (rE.is G') us es ∧ es.length = k ∧ ∀ x ∈ es, EvOk items gr (js.map (·.1)) x, ⟨(n06.trans n7).trans n8, ⟨_, _, _, _, _, _, _, rfl⟩, [], [], own7.nxt n8, .nil, rfl, by simp⟩, ?_, ?_⟩
  · rintro k x σ' G' H' hx e3 e4 ⟨nn, ⟨a, b, c, d, f, m, n, rfl⟩, us, es, own, pu, hel, hok⟩ w1 G9 H9 n9 rfl
    have hk := (List.getElem?_eq_some_iff.mp hx).1
    rw [List.length_range] at hk
    rw [List.getElem?_range hk] at hx
    cases hx
    obtain ⟨y, hy, oky⟩ := nx (13 + k) (by omega)
    obtain ⟨ry, hry, lty⟩ := mod_nat y (js.length : Int) (by omega)
    obtain ⟨rp, hrp, ltp⟩ := mod_nat (y / 27) (items.length : Int) (by omega)
    obtain ⟨jd, hjd⟩ : ∃ z, js[ry]? = some z := ⟨_, List.getElem?_eq_getElem (show ry < js.length by omega)⟩
    obtain ⟨it, hit⟩ : ∃ z, items[rp]? = some z := ⟨_, List.getElem?_eq_getElem (show rp < items.length by omega)⟩
    obtain ⟨hd, hhd⟩ : ∃ z, hs[rp]? = some z := ⟨_, List.getElem?_eq_getElem (show rp < hs.length by omega)⟩
    have jin : jd.1 ∈ js.map (·.1) := List.mem_map.mpr ⟨jd, List.mem_of_getElem? hjd, rfl⟩
    have iin := List.mem_of_getElem? hit
    have nn9 := nn.trans n9
    have x6 : Ex G6 G9 := n8.g.trans (e3.trans n9.g)
    have xj : Ex Gj G9 := n6.g.trans x6
    have own9 := own.nxt n9
    refine q_asg (R := FW.rI) (x := y) (ev_int1 (g0 (13 + k) y rfl nn9.g (ev_val (ev_addI (ev_addI (ev_var rfl rfl) ev_int) (ev_N (ev_var rfl rfl))) (by omega)) hy)) n9.s fun u GA HA nA rA => ?_
    cases rA
    refine q_asg (R := rJ) (x := jd) (ev_ixL (ev_var rfl ((rL rJ).ex (xj.trans nA.g) rj)) (ev_val (ev_modI (ev_int1 (ev_var rfl rfl)) (ev_N (ev_len (ev_var rfl ((rL rJ).ex (xj.trans nA.g) rj)))) (by omega)) hry) hjd) nA.s fun vj GB HB nB rB_ => ?_
    have xB : Ex G9 GB := nA.g.trans nB.g
    refine q_asg (R := FW.rI) (ev_modI (ev_int1 (ev_divI (ev_var rfl rfl) ev_int (by decide) (by decide))) ev_int (by decide)) nB.s fun u GC HC nC rC => ?_
    cases rC
    generalize hkind : y / 3 % 9 = kind
    refine q_asg (R := FW.rI) (x := (rp : Int)) (ev_val (ev_modI (ev_int1 (ev_divI (ev_var rfl rfl) ev_int (by decide) (by decide))) (ev_N (ev_len (ev_var rfl ((rL rS).ex (xj.trans (xB.trans nC.g)) ri3)))) (by omega)) hrp) nC.s fun u GD HD nD rD_ => ?_
    cases rD_
    have xD : Ex GB GD := nC.g.trans nD.g
    refine q_asg (R := FW.rI) (x := (k : Int)) (ev_N (ev_var rfl rfl)) nD.s fun u GE HE nE rE_ => ?_
    cases rE_
    have rjE := rJ.ex (xD.trans nE.g) rB_
    refine q_ifI (b := decide (dStr jd.2 = "falls")) (x := 20 - (k : Int)) (x0 := (k : Int)) (et_test (ev_eqS (ev_dfS (ev_ixT2_1 (R := rS) (S := rDf) (ev_var rfl rjE))) ev_str)) rfl (fun _ => ev_subI (ev_var rfl rfl) (ev_N (ev_var rfl rfl))) nE.s fun bar GF HF nF hbar => ?_
    have xF : Ex GB GF := xD.trans (nE.g.trans nF.g)
    have x9F : Ex G9 GF := xB.trans xF
    refine q_asgP (R := FW.rI) (PA := fun g => 0 ≤ g ∧ g ≤ gr) ((ev_max2 ev_int (ev_min2 (ev_var rfl rfl) (ev_subI (ev_ixL (ev_var rfl ((rL FW.rI).ex (x6.trans x9F) rh)) (ev_var rfl rfl) hhd) (ev_int1 (ev_divI (ev_mulI (ev_var rfl rfl) ev_int (.inr ⟨by decide, by decide⟩)) (ev_addI (ev_var rfl rfl) ev_int) (by decide) (by decide)))))).imp fun g hg => ?_) nF.s fun vg GH HH g1 nH rH hg1 => ?_
    · rw [hg]
      split
      · split at * <;> omega
      · exact ⟨by omega, by omega⟩
    cases rH
    have nnH := ((((((nn9.trans nA).trans nB).trans nC).trans nD).trans nE).trans nF).trans nH
    have ownH := ((((((own9.nxt nA).nxt nB).nxt nC).nxt nD).nxt nE).nxt nF).nxt nH
    have x9H : Ex G9 GH := x9F.trans nH.g
    have puH := pd_mono (fun _ _ => rE.ex (n9.g.trans x9H)) pu
    have pul := pd_len puH
    have rjH := rJ.ex (xF.trans nH.g) rB_
    have xk : Ex G8 GH := (e3.trans n9.g).trans x9H
    have fin : ∀ (GZ HZ : Hp) (vz : V) (z : RB.Ev Str) (s : L2.St), Nxt GH HH GZ HZ → rE.is GZ vz z → EvOk items gr (js.map (·.1)) z → Own H6 GZ (upd HZ le (.lst (us ++ [vz]))) le (.lst (us ++ [vz])) → (∃ a b c d f m n, s = [some v, some (.int 0), some (.int 6), some (.int 20), some vi, some (.int gr), some (.ref lj), a, some vh, some (.ref le), b, c, d, f, m, n]) →
        ∃ G4, Ex G8 G4 ∧ Ex G4 (upd HZ le (.lst (us ++ [vz]))) ∧ Nxt G H G4 (upd HZ le (.lst (us ++ [vz]))) ∧ (∃ a b c d f m n, s = [some v, some (.int 0), some (.int 6), some (.int 20), some vi, some (.int gr), some (.ref lj), a, some vh, some (.ref le), b, c, d, f, m, n]) ∧ ∃ us' es', Own H6 G4 (upd HZ le (.lst (us ++ [vz]))) le (.lst us') ∧ Pd (rE.is G4) us' es' ∧ es'.length = k + 1 ∧ ∀ x ∈ es', EvOk items gr (js.map (·.1)) x := fun GZ HZ vz z s nZ rz hz oz hs => by
      refine ⟨GZ, xk.trans nZ.g, nZ.s.mut oz.g, (nnH.trans nZ).mut (n06.h.free oz.s) oz.g, hs, us ++ [vz], es ++ [z], oz, pd_snoc (pd_mono (fun _ _ => rE.ex nZ.g) puH) rz, by rw [List.length_append, hel]; rfl, fun x hx => ?_⟩
      rcases List.mem_append.mp hx with hx | hx
      · exact hok x hx
      · rw [List.mem_singleton.mp hx]; exact hz
    refine s_if (b := decide (kind = 0)) (et_test (ev_eqI (ev_var rfl rfl) ev_int)) nH.s (fun hb GI HI nI => ?_) (fun hb GI HI nI => ?_)
    · refine s_app (ownH.nxt nI) rfl (R := rE) (PA := fun z => z = .res jd.1) ((ev_tup2 (R := rS) (S := rS) (PA := fun z => z = "reset") (PB := fun z => z = jd.1) ev_str (ev_ixT2_0 (R := rS) (S := rDf) (ev_var rfl (rJ.ex nI.g rjH)))).as fun G2 v x e r p => ?_) nI.s (by omega) fun vZ GZ HZ z nZ rz pz oz => ?_
      · obtain ⟨aa, v1, v2, rfl, ha1, h1, h2⟩ := r
        cases h1; cases h2
        exact ⟨.res jd.1, ⟨aa, rfl, by rw [ha1, p.1, p.2]; rfl⟩, rfl⟩
      · subst pz
        exact fin GZ HZ vZ _ _ (nI.trans nZ) rz jin oz ⟨_, _, _, _, _, _, _, rfl⟩
    · have hgm : ∃ r : Nat, (y / 31) % (gr + 1) = (r : Int) ∧ (r : Int) < gr + 1 := mod_nat _ _ (by omega)
      obtain ⟨rg, hrg, ltg⟩ := hgm
      refine q_ifI (x := (rg : Int)) (x0 := g1) (et_or (et_test (ev_eqI (ev_var rfl rfl) ev_int)) fun _ => et_and (et_test (ev_eqS (ev_dfS (ev_ixT2_1 (R := rS) (S := rDf) (ev_var rfl (rJ.ex nI.g rjH)))) ev_str)) fun _ => et_test (ev_cmpI (r := fun i j => decide (i < j)) (ev_var rfl rfl) ev_int)) rfl (fun _ => ev_val (ev_modI (ev_int1 (ev_divI (ev_var rfl rfl) ev_int (by decide) (by decide))) (ev_addI (ev_var rfl rfl) ev_int) (by omega)) hrg) nI.s fun g2 GJ HJ nJ hg2 => ?_
      have hg2b : 0 ≤ g2 ∧ g2 ≤ gr := by
        rw [hg2]
        split
        · omega
        · exact hg1
      have xJ : Ex G9 GJ := x9H.trans (nI.g.trans nJ.g)
      refine s_app ((ownH.nxt nI).nxt nJ) rfl (R := rE) (PA := fun z => z = .ans jd.1 it g2) ((ev_tup4 (R := rS) (S := rS) (T := rS) (U := FW.rI) (PA := fun z => z = "answer") (PB := fun z => z = jd.1) (PC := fun z => z = it) (PD := fun z => z = g2) ev_str (ev_ixT2_0 (R := rS) (S := rDf) (ev_var rfl (rJ.ex (nI.g.trans nJ.g) rjH))) (ev_ixL (ev_var rfl ((rL rS).ex (xj.trans xJ) ri3)) (ev_var rfl rfl) hit) (ev_var rfl rfl)).as fun G2 v x e r p => ?_) nJ.s (by omega) fun vZ GZ HZ z nZ rz pz oz => ?_
      · obtain ⟨aa, v1, v2, v3, v4, rfl, ha1, h1, h2, h3, h4⟩ := r
        cases h1; cases h2; cases h3; cases h4
        exact ⟨.ans jd.1 it g2, ⟨aa, rfl, by rw [ha1, p.1, p.2.1, p.2.2.1, p.2.2.2]; rfl⟩, rfl⟩
      · subst pz
        exact fin GZ HZ vZ _ _ ((nI.trans nJ).trans nZ) rz ⟨jin, iin, hg2b.1, hg2b.2⟩ oz ⟨_, _, _, _, _, _, _, rfl⟩
  · rintro σ' G' H' e3 e4 ⟨nn, ⟨a, b, c, d, f, m, n, rfl⟩, us, es, own, pu, hel, hok⟩
    rw [List.length_range] at hel
    have xt : Ex Gj (upd G' le (.lst us)) := n6.g.trans (n8.g.trans (e3.trans (Ex.new own.g)))
    refine s_retP (R := rParts) (PA := fun y => y.1 = items ∧ y.2.1 = gr ∧ y.2.2.1 = js ∧ y.2.2.2 = es) (ev_tup4 (R := rL rS) (S := FW.rI) (T := rL rJ) (U := rL rE) (ev_var rfl ((rL rS).ex xt ri3)) (ev_var rfl rfl) (ev_var rfl ((rL rJ).ex xt rj)) (ev_var rfl (own_list own pu e4))) (own.told e4) fun v5 G5 H5 y n5 r5 hy => q v5 G5 H5 y ((nn.tell (n06.h.free own.s) own.h own.g).trans n5) r5 ⟨⟨items, gr, js, es⟩, ⟨iok, by show 1 ≤ items.length; omega, by show items.length ≤ 6; omega, ind, jnm, by show 1 ≤ js.length; omega, by show js.length ≤ 3; omega, jnd, hg19.1, hg19.2, by show es.length ≤ 24; omega, hok⟩, by show es.length ≤ 20; omega, ?_⟩
    obtain ⟨y1, y2, y3, y4⟩ := y
    obtain ⟨rfl, rfl, rfl, rfl⟩ := hy
    rfl)
end
end FW
/-! The plain law, part 2: what each step of the law asks of links and ways. -/
namespace FW
open PySem L2
abbrev BtA (L : Log) : Str → Str → Prop := RB.Bt L RB.All
theorem hasAll_of {F F' : Str → Str → Prop} (h : ∀ x y, F' x y → F x y) : HasAll F F' := .inr h
/-- the log of some answers -/
theorem only_cut (L : Log) (pl : List Nat) : RB.Cut L (onlyL L pl) (fun k => (decide (k ∈ pl) || !isAns L k) = true) := by
  refine RB.cut_of (f := fun k => decide (k ∈ pl) || !isAns L k) fun k j h => ?_
  have : isAns L k = false := by
    unfold isAns
    rw [h]
  rw [this, Bool.not_false, Bool.or_true]
theorem only_lk {L : Log} {pl : List Nat} (x y : Str) : RB.LkR (onlyL L pl) RB.All x y ↔ RB.LkR L (fun p => p ∈ pl) x y := by
  refine (only_cut L pl).all (fun p q x y l => ?_) x y
  obtain ⟨j, g, h, d, e1, e2, _⟩ := l
  have a1 := (isAns_of e1).1
  have a2 := (isAns_of e2).1
  rw [a1, a2, Bool.not_true, Bool.or_false, Bool.or_false, decide_eq_true_eq, decide_eq_true_eq]
theorem only_bt {L : Log} {pl : List Nat} (x y : Str) : BtA (onlyL L pl) x y ↔ RB.Bt L (fun p => p ∈ pl) x y := RB.tg_iff only_lk x y
theorem only_le {L : Log} {pl : List Nat} {x y : Str} (h : BtA (onlyL L pl) x y) : BtA L x y := RB.Bt.mono (fun _ _ => trivial) ((only_bt x y).mp h)
/-- outer answers keep all links -/
theorem out_lk {L : Log} {ys : List Nat} (h : IsOut L ys) {x y : Str} (l : RB.LkR L RB.All x y) : RB.LkR L (fun p => p ∈ ys) x y := by
  obtain ⟨p, q, _, _, hl⟩ := l
  obtain ⟨⟨z, hz, hp, hq, hs, hg, ho⟩, rfl, rfl⟩ := linkJ_iff.mp hl
  obtain ⟨a1, b1, ha1, hb1, aa1, ab1, sa1, sb1, ka1, kb1, la1, lb1⟩ := h.ok z hz p hp
  obtain ⟨a2, b2, ha2, hb2, aa2, ab2, sa2, sb2, ka2, kb2, la2, lb2⟩ := h.ok z hz q hq
  have key : ∀ a b, a ∈ ys → b ∈ ys → RB.AnsOf L z.1 a → RB.AnsOf L z.1 b → RB.Same L z.1 p a → RB.Same L z.1 q b → keyOf L a = keyOf L p → keyOf L b = keyOf L q → RB.ord z.2 a b → RB.LkR L (fun p => p ∈ ys) (itOf L p) (itOf L q) := fun a b m1 m2 n1 n2 s1 s2 k1 k2 o => by
    have i1 : itOf L a = itOf L p := congrArg Prod.fst k1
    have g1 : grOf L a = grOf L p := congrArg Prod.snd k1
    have i2 : itOf L b = itOf L q := congrArg Prod.fst k2
    have g2 : grOf L b = grOf L q := congrArg Prod.snd k2
    refine ⟨a, b, m1, m2, linkJ_iff.mpr ⟨⟨z, hz, n1, n2, (s1.symm.trans hp hs).trans hq s2, by omega, o⟩, i1.symm, i2.symm⟩⟩
  obtain ⟨j, d⟩ := z
  cases d with
  | stays => exact key a1 a2 ha1 ha2 aa1 aa2 sa1 sa2 ka1 ka2 trivial
  | rises =>
    have ho : p < q := ho
    exact key a1 b2 ha1 hb2 aa1 ab2 sa1 sb2 ka1 kb2 (show a1 < b2 by omega)
  | falls =>
    have ho : q < p := ho
    exact key b1 a2 hb1 ha2 ab1 aa2 sb1 sa2 kb1 ka2 (show a2 < b1 by omega)
theorem out_bt {L : Log} {ys : List Nat} (h : IsOut L ys) (x y : Str) : BtA (onlyL L ys) x y ↔ BtA L x y := ⟨only_le, fun t => (only_bt x y).mpr (RB.tg_mono (fun _ _ => out_lk h) t)⟩
theorem back_bt {L : Log} (x y : Str) : BtA (backL L) x y ↔ BtA L x y := RB.tg_iff (RB.back_lk (L' := backL L) rfl rfl) x y
theorem stay_bt {L : Log} {j : Str} {x y : Str} (h : BtA L x y) : BtA (driftL L j .stays) x y := RB.tg_mono (fun _ _ => RB.stay_lk (L' := driftL L j .stays) rfl rfl) h
/-! thinned: nothing of it is needless -/
theorem cut_fwd {L L' : Log} {keep : Nat → Prop} (c : RB.Cut L L' keep) {p0 : Nat} {e0 : RB.Ev Str} (h0 : L'.events[p0]? = some e0) : ∃ k0, keep k0 ∧ L.events[k0]? = some e0 ∧ ∀ x y, RB.LkR L' (fun q => q ≠ p0) x y → RB.LkR L (fun k => keep k ∧ k ≠ k0) x y := by
  obtain ⟨zs, pw, hz, he⟩ := c.ex
  have get : ∀ i e, L'.events[i]? = some e → ∃ k, zs[i]? = some (e, k) ∧ L.events[k]? = some e ∧ keep k := fun i e h => by
    rw [he, List.getElem?_map] at h
    cases q : zs[i]? with
    | none => rw [q] at h; cases h
    | some z =>
      rw [q] at h
      obtain ⟨e', k⟩ := z
      have : e' = e := Option.some.inj h
      subst this
      have := (hz e' k).mp (List.mem_of_getElem? q)
      exact ⟨k, q, this.1, this.2⟩
  have put : ∀ e k, L.events[k]? = some e → keep k → ∃ i, zs[i]? = some (e, k) ∧ L'.events[i]? = some e := fun e k h hk => by
    obtain ⟨i, hi⟩ := List.mem_iff_getElem?.mp ((hz e k).mpr ⟨h, hk⟩)
    exact ⟨i, hi, by rw [he, List.getElem?_map, hi]; rfl⟩
  have ordc : ∀ (d : RB.Drift) i j a b, zs[i]? = some a → zs[j]? = some b → (RB.ord d i j ↔ RB.ord d a.2 b.2) := fun d i j a b ha hb => by
    cases d with
    | stays => exact Iff.rfl
    | rises => exact RB.pw_lt pw ha hb
    | falls => exact RB.pw_lt pw hb ha
  have nores : ∀ j i i' e e' k k', zs[i]? = some (e, k) → zs[i']? = some (e', k') → RB.NoRes L' j i i' → RB.NoRes L j k k' := fun j i i' e e' k k' h1 h2 h r a b er => by
    obtain ⟨m, hm, em⟩ := put _ r er (c.resets r j er)
    exact h m ((RB.pw_lt pw h1 hm).mpr a) ((RB.pw_lt pw hm h2).mpr b) em
  obtain ⟨k0, z0, f0, kp0⟩ := get p0 e0 h0
  refine ⟨k0, kp0, f0, ?_⟩
  rintro x y ⟨p, q, hp, hq, j, g, h, d, e1, e2, hj, hg, ho, hs⟩
  obtain ⟨p', z1, f1, k1⟩ := get p _ e1
  obtain ⟨q', z2, f2, k2⟩ := get q _ e2
  have ne : ∀ i e k, zs[i]? = some (e, k) → i ≠ p0 → k ≠ k0 := fun i e k hi hne hk => by
    subst hk
    have a := RB.pw_lt pw hi z0
    have b := RB.pw_lt pw z0 hi
    dsimp only at a b
    omega
  exact ⟨p', q', ⟨k1, ne _ _ _ z1 hp⟩, ⟨k2, ne _ _ _ z2 hq⟩, j, g, h, d, f1, f2, c.judges ▸ hj, hg, (ordc d p q _ _ z1 z2).mp ho, nores j _ _ _ _ _ _ z1 z2 hs.1, nores j _ _ _ _ _ _ z2 z1 hs.2⟩
theorem thin_min {L : Log} {ys : List Nat} (hs : SameBy L (fun q => q ∈ ys)) (hm : ∀ p ∈ ys, ¬ SameBy L (fun q => q ∈ ys ∧ q ≠ p)) {p' : Nat} (hp' : isAns (onlyL L ys) p' = true) (h : SameBy (onlyL L ys) (fun q => q ∈ (ansL (onlyL L ys)).filter fun o => decide (o ≠ p'))) : False := by
  obtain ⟨k0, hk, he, hf⟩ := cut_fwd (only_cut L ys) (isAns_at hp')
  have hka := (isAns_of he).1
  have hky : k0 ∈ ys := by
    rw [hka, Bool.not_true, Bool.or_false, decide_eq_true_eq] at hk
    exact hk
  refine hm k0 hky ?_
  have fwd : ∀ x y, RB.Bt (onlyL L ys) (fun q => q ∈ (ansL (onlyL L ys)).filter fun o => decide (o ≠ p')) x y → RB.Bt L (fun q => q ∈ ys ∧ q ≠ k0) x y := fun x y t => RB.tg_mono (fun x y l => by
    have l2 := hf x y (RB.LkR.mono (P := fun q => q ∈ (ansL (onlyL L ys)).filter fun o => decide (o ≠ p')) (Q := fun q => q ≠ p') (fun q hq => by
      have := (List.mem_filter.mp hq).2
      exact of_decide_eq_true this) l)
    obtain ⟨p, q, h1, h2, l3⟩ := l2
    have l4 := l3
    obtain ⟨j, g, h, d, e1, e2, _⟩ := l4
    have a1 := (isAns_of e1).1
    have a2 := (isAns_of e2).1
    have k1 := h1.1
    have k2 := h2.1
    rw [a1, Bool.not_true, Bool.or_false, decide_eq_true_eq] at k1
    rw [a2, Bool.not_true, Bool.or_false, decide_eq_true_eq] at k2
    exact ⟨p, q, ⟨k1, h1.2⟩, ⟨k2, h2.2⟩, l3⟩) t
  rcases h with ⟨x, h⟩ | h
  · exact .inl ⟨x, fwd x x h⟩
  · have sub : ∀ x y, RB.Bt L (fun q => q ∈ ys) x y → RB.Bt L (fun q => q ∈ ys ∧ q ≠ k0) x y := fun x y t => fwd x y (h x y ((only_bt x y).mpr t))
    rcases hs with ⟨x, hs⟩ | hs
    · exact .inl ⟨x, sub x x hs⟩
    · exact .inr fun x y t => sub x y (hs x y t)
/-! covers make all -/
theorem cov_chain {items : List Str} {F : Str → Str → Prop} (tr : ∀ x y z, F x y → F y z → F x z) (ir : ∀ x, ¬ F x x) (cl : ∀ x y, F x y → x ∈ items ∧ y ∈ items) {a b : Str} (h : F a b) : Relation.TransGen (Cov F) a b := by
  classical
  have key : ∀ (k : Nat) (a b : Str), F a b → (items.filter fun m => decide (F a m ∧ F m b)).length ≤ k → Relation.TransGen (Cov F) a b := by
    intro k
    induction k with
    | zero =>
      intro a b hab hk
      refine .single ⟨hab, fun ⟨m, h1, h2⟩ => ?_⟩
      have hmem : m ∈ items.filter fun m => decide (F a m ∧ F m b) := List.mem_filter.mpr ⟨(cl _ _ h1).2, decide_eq_true ⟨h1, h2⟩⟩
      have := List.length_pos_of_mem hmem
      omega
    | succ k ih =>
      intro a b hab hk
      by_cases hc : ∃ m, F a m ∧ F m b
      · obtain ⟨m, h1, h2⟩ := hc
        have hmi := (cl _ _ h1).2
        have l1 := filter_lt (p := fun z => decide (F a z ∧ F z b)) (q := fun z => decide (F a z ∧ F z m)) (xs := items) (fun z hz => decide_eq_true (by
          have := of_decide_eq_true hz
          exact ⟨this.1, tr _ _ _ this.2 h2⟩)) ⟨m, hmi, decide_eq_true ⟨h1, h2⟩, decide_eq_false fun c => ir m c.2⟩
        have l2 := filter_lt (p := fun z => decide (F a z ∧ F z b)) (q := fun z => decide (F m z ∧ F z b)) (xs := items) (fun z hz => decide_eq_true (by
          have := of_decide_eq_true hz
          exact ⟨tr _ _ _ h1 this.1, this.2⟩)) ⟨m, hmi, decide_eq_true ⟨h1, h2⟩, decide_eq_false fun c => ir m c.1⟩
        exact RB.tg_trans (ih a m h1 (by omega)) (ih m b h2 (by omega))
      · exact .single ⟨hab, hc⟩
  exact key _ a b h (Nat.le_refl _)
theorem least_bt {L : Log} (W : WfL L) (hno : ∀ x, ¬ BtA L x x) {ls : List (Nat × Nat)} (hl : IsLeast L ls) {pl : List Nat} (hp : ∀ p q, (p, q) ∈ ls → p ∈ pl ∧ q ∈ pl) {x y : Str} (h : BtA L x y) : BtA (onlyL L pl) x y := by
  have c := cov_chain (F := BtA L) (fun _ _ _ => RB.tg_trans) hno (fun x y t => W.bt t) h
  refine (only_bt x y).mpr (RB.tg_mono (fun a b hc => ?_) c)
  obtain ⟨p, q, h1, h2⟩ := hl.all a b hc
  have := hp p q h1
  exact ⟨p, q, this.1, this.2, h2⟩
/-! an answer more -/
theorem cnt_mono {q : Int} : ∀ {ys : List Int}, ys.Pairwise (· ≤ ·) → (∀ (i : Nat) (b : Int), i < (ys.filter fun b => decide (b ≤ q)).length → ys[i]? = some b → b ≤ q) ∧ ∀ b : Int, ys[(ys.filter fun b => decide (b ≤ q)).length]? = some b → q < b
  | [], _ => ⟨fun i b h => by simp at h, fun b h => by simp at h⟩
  | a :: r, h => by
    have hp := List.pairwise_cons.mp h
    by_cases c : a ≤ q
    · obtain ⟨h1, h2⟩ := cnt_mono (q := q) hp.2
      rw [List.filter_cons, if_pos (decide_eq_true c)]
      refine ⟨fun i b hi hb => ?_, fun b hb => ?_⟩
      · cases i with
        | zero => cases hb; exact c
        | succ i => exact h1 i b (by simpa using hi) (by simpa using hb)
      · exact h2 b (by simpa using hb)
    · have he : (r.filter fun b => decide (b ≤ q)) = [] := List.filter_eq_nil_iff.mpr fun b hb hc => by
        have := hp.1 b hb
        have := of_decide_eq_true hc
        omega
      rw [List.filter_cons, if_neg (by rw [decide_eq_true_eq]; exact c), he]
      refine ⟨fun i b hi => by simp at hi, fun b hb => ?_⟩
      cases hb
      omega
section
variable {L : Log} {qs : Qual} {p : Nat} {row : List Int}
theorem bar_mono (hd : IsDep L qs) {k k' b b' : Int} (hk : k ≤ k') (h : IsBar L qs p k b) (h' : IsBar L qs p k' b') (W : WfL L) : b ≤ b' := by
  have nn : ∀ a n, Ahead L p a → look qs (itOf L a) = some n → 0 ≤ n := fun a n ha hn => by
    have hi := (W.ansj (ansOf_iff.mp ha.1.1).1).2.1
    obtain ⟨m, hm, h0⟩ := hd.all _ hi
    rw [hn] at hm
    cases hm; exact h0
  rcases h.or with ⟨rfl, _⟩ | ⟨m, rfl, ⟨a, ha, hg, hm⟩, _⟩
  · rcases h'.or with ⟨rfl, _⟩ | ⟨m', rfl, ⟨a', ha', _, hm'⟩, _⟩
    · exact Int.le_refl _
    · have := nn a' m' ha' hm'; omega
  · rcases h'.or with ⟨rfl, hno⟩ | ⟨m', rfl, _, hmax⟩
    · exact absurd (by omega : grOf L a < k') (hno a ha)
    · have := hmax a ha (by omega) m hm
      omega
theorem row_pw (hd : IsDep L qs) (hr : IsRow L qs p row) (W : WfL L) : row.Pairwise (· ≤ ·) := by
  rw [List.pairwise_iff_getElem]
  intro i j hi hj hij
  exact bar_mono hd (by omega) (hr.bar i _ (List.getElem?_eq_getElem hi)) (hr.bar j _ (List.getElem?_eq_getElem hj)) W
/-- where an old answer stands now -/
def sh (m a : Nat) : Nat := if a < m then a else a + 1
theorem put_at {m : Nat} {ev : RB.Ev Str} (hm : m ≤ L.events.length) {i : Nat} {x : RB.Ev Str} (h : (putE L m ev).events[i]? = some x) : (i = m ∧ x = ev) ∨ ∃ a, i = sh m a ∧ L.events[a]? = some x := by
  have h : (L.events.take m ++ [ev] ++ L.events.drop m)[i]? = some x := h
  have lt : (L.events.take m).length = m := by rw [List.length_take]; omega
  by_cases h1 : i < m
  · rw [List.append_assoc, List.getElem?_append_left (by omega), List.getElem?_take, if_pos h1] at h
    exact .inr ⟨i, by unfold sh; rw [if_pos h1], h⟩
  · rw [List.append_assoc, List.getElem?_append_right (by omega), lt] at h
    by_cases h2 : i = m
    · subst h2
      rw [Nat.sub_self] at h
      cases h
      exact .inl ⟨rfl, rfl⟩
    · rw [List.getElem?_append_right (by simp; omega), List.getElem?_drop] at h
      refine .inr ⟨i - 1, by unfold sh; rw [if_neg (by omega)]; omega, ?_⟩
      rw [← h]
      congr 1
      simp only [List.length_singleton]
      omega
theorem put_old {m : Nat} {ev : RB.Ev Str} (hm : m ≤ L.events.length) {a : Nat} {x : RB.Ev Str} (h : L.events[a]? = some x) : (putE L m ev).events[sh m a]? = some x := by
  show (L.events.take m ++ [ev] ++ L.events.drop m)[sh m a]? = some x
  have lt : (L.events.take m).length = m := by rw [List.length_take]; omega
  unfold sh
  by_cases h1 : a < m
  · rw [if_pos h1, List.append_assoc, List.getElem?_append_left (by omega), List.getElem?_take, if_pos h1]; exact h
  · rw [if_neg h1, List.append_assoc, List.getElem?_append_right (by omega), lt, List.getElem?_append_right (by simp; omega), List.getElem?_drop, ← h]
    congr 1
    simp only [List.length_singleton]
    omega
theorem sh_lt {m a b : Nat} : sh m a < sh m b ↔ a < b := by
  unfold sh
  split <;> split <;> omega
/-- with the answer put in by its bars every link still leads up -/
theorem wide_up (W : WfL L) (hd : IsDep L qs) (hp : isAns L p = true) (hr : IsRow L qs p row) {it : Str} {q : Int} (hit : it ∈ L.items) (hq : look qs it = some q) {m : Nat} (hm : m = p ∨ m = p + 1)
    {x y : Str} (h : RB.LkR (putE L m (.ans (jgOf L p) it ((row.filter fun b => decide (b ≤ q)).length : Int))) RB.All x y) {nx ny : Int} (hx : look qs x = some nx) (hy : look qs y = some ny) : nx < ny := by
  have hpl := isAns_lt hp
  have hml : m ≤ L.events.length := by omega
  obtain ⟨c1, c2⟩ := cnt_mono (q := q) (row_pw hd hr W)
  have rl := hr.len
  have hg1 := W.g1
  generalize hg : (row.filter fun b => decide (b ≤ q)).length = g at c1 c2 h
  have hgl : g ≤ row.length := by rw [← hg]; exact List.length_filter_le _ _
  obtain ⟨i1, i2, _, _, j, g1, g2, d, e1, e2, hj, hlt, ho, hs⟩ := h
  have hj : (j, d) ∈ L.judges := hj
  have sameL : ∀ a b, RB.NoRes (putE L m (.ans (jgOf L p) it (g : Int))) j (sh m a) (sh m b) → RB.NoRes L j a b := fun a b hn r h1 h2 er => hn (sh m r) (sh_lt.mpr h1) (sh_lt.mpr h2) (put_old hml er)
  have ansP : RB.AnsOf L (jgOf L p) p := ansOf_iff.mpr ⟨hp, rfl⟩
  -- what stands in one stretch with the new answer does so with p
  have sameN : ∀ a, j = jgOf L p → RB.Same (putE L m (.ans (jgOf L p) it (g : Int))) j m (sh m a) → RB.AnsOf L j a → RB.Same L j p a := fun a ej hn ha => by
    constructor
    · intro r h1 h2 er
      have hsr : sh m r = r + 1 := by unfold sh; rw [if_neg (by omega)]
      have hsa : sh m a = a + 1 := by unfold sh; rw [if_neg (by omega)]
      exact hn.1 (sh m r) (by omega) (by omega) (put_old hml er)
    · intro r h1 h2 er
      by_cases hrm : r < m
      · have hsr : sh m r = r := by unfold sh; rw [if_pos hrm]
        have hsa : sh m a = a := by unfold sh; rw [if_pos (by omega)]
        exact hn.2 (sh m r) (by omega) (by omega) (put_old hml er)
      · omega
  rcases put_at hml e1 with ⟨rfl, ev1⟩ | ⟨a, rfl, f1⟩
  · cases ev1
    rcases put_at hml e2 with ⟨z, _⟩ | ⟨b, rfl, f2⟩
    · subst z
      have := isAns_of e2
      rw [e1] at e2
      cases e2
      omega
    · -- the new answer leads to b
      have hb := isAns_of f2
      have ansB : RB.AnsOf L (jgOf L p) b := ⟨_, _, f2⟩
      have sB := sameN b rfl hs ansB
      have gb : g2 ≤ L.grades := by
        have := (W.ansj hb.1).2.2.2
        rw [hb.2.2.2] at this; exact this
      have hgr : g < row.length := by omega
      have hbar := hr.bar g _ (List.getElem?_eq_getElem hgr)
      have hqb := c2 _ (List.getElem?_eq_getElem hgr)
      have q0 : 0 ≤ q := by
        obtain ⟨n, hn, h0⟩ := hd.all it hit
        rw [hq] at hn; cases hn; exact h0
      rw [hq] at hx
      cases hx
      rcases hbar.or with ⟨z, _⟩ | ⟨n, hn, ⟨a, ha, hga, hla⟩, _⟩
      · omega
      · have nq : q ≤ n := by omega
        have ga : grOf L a < g2 := by omega
        have ansA := ha.1.1
        have dj : d = driftOf L (jgOf L p) := W.drift_uniq hj
        have hab : RB.ord d a b := by
          have hah := ha.2
          unfold ahd at hah
          rw [← dj] at hah
          have hne : a ≠ b := fun c => by
            subst c
            rw [hb.2.2.2] at ga; omega
          cases d with
          | stays => trivial
          | rises =>
            have ho : i1 < sh i1 b := ho
            have hbm : p ≤ b := by
              unfold sh at ho
              split at ho <;> omega
            show a < b
            rw [Bool.or_eq_true, decide_eq_true_eq, Bool.or_eq_true] at hah
            rcases hah with h1 | h1 | h1
            · omega
            · exact absurd (of_decide_eq_true h1) (show ¬ (("rises" : Str) = "stays") by decide)
            · rw [show decide (dStr RB.Drift.rises = "rises") = true from decide_eq_true rfl, beq_iff_eq] at h1
              have := of_decide_eq_true h1
              omega
          | falls =>
            have ho : sh i1 b < i1 := ho
            have hbm : b ≤ p := by
              unfold sh at ho
              split at ho <;> omega
            show b < a
            rw [Bool.or_eq_true, decide_eq_true_eq, Bool.or_eq_true] at hah
            rcases hah with h1 | h1 | h1
            · omega
            · exact absurd (of_decide_eq_true h1) (show ¬ (("falls" : Str) = "stays") by decide)
            · rw [show decide (dStr RB.Drift.falls = "rises") = false from decide_eq_false (show ¬ (("falls" : Str) = "rises") by decide), beq_iff_eq] at h1
              have := of_decide_eq_false h1
              omega
        have lk : RB.LkR L RB.All (itOf L a) y := ⟨a, b, trivial, trivial, linkJ_iff.mpr ⟨⟨(jgOf L p, d), hj, ansA, ansB, ha.1.2.symm.trans ansP sB, by rw [hb.2.2.2]; exact ga, hab⟩, rfl, hb.2.2.1.symm⟩⟩
        have := hd.up _ _ n ny (.single lk) hla hy
        omega
  · rcases put_at hml e2 with ⟨rfl, ev2⟩ | ⟨b, rfl, f2⟩
    · -- a leads to the new answer
      cases ev2
      have haa := isAns_of f1
      have ansA : RB.AnsOf L (jgOf L p) a := ⟨_, _, f1⟩
      have sA := sameN a rfl hs.symm ansA
      have dj : d = driftOf L (jgOf L p) := W.drift_uniq hj
      have hah : ahd L p a = true := by
        unfold ahd
        rw [← dj]
        by_cases hap : a = p
        · rw [decide_eq_true hap]; rfl
        · rw [decide_eq_false hap, Bool.false_or]
          cases d with
          | stays => rw [show decide (dStr RB.Drift.stays = "stays") = true from decide_eq_true rfl]; rfl
          | rises =>
            have ho : sh i2 a < i2 := ho
            have : a < p := by
              unfold sh at ho
              split at ho <;> omega
            rw [decide_eq_true this, show decide (dStr RB.Drift.rises = "rises") = true from decide_eq_true rfl]
            simp
          | falls =>
            have ho : i2 < sh i2 a := ho
            have : ¬ a < p := by
              unfold sh at ho
              split at ho <;> omega
            rw [decide_eq_false this, show decide (dStr RB.Drift.falls = "rises") = false from decide_eq_false (show ¬ (("falls" : Str) = "rises") by decide)]
            simp
      have hA : Ahead L p a := ⟨⟨ansA, sA⟩, hah⟩
      have ga0 : 0 ≤ g1 := by
        have := (W.ansj haa.1).2.2.1
        rw [haa.2.2.2] at this; exact this
      have hgr : g - 1 < row.length := by omega
      have hbar := hr.bar (g - 1) _ (List.getElem?_eq_getElem hgr)
      have hqb := c1 (g - 1) _ (by omega) (List.getElem?_eq_getElem hgr)
      rw [hq] at hy
      cases hy
      have hlk : look qs (itOf L a) = some nx := by rw [haa.2.2.1]; exact hx
      have hgg : grOf L a < ((g - 1 : Nat) : Int) + 1 := by rw [haa.2.2.2]; omega
      rcases hbar.or with ⟨_, hno⟩ | ⟨n, hn, _, hmax⟩
      · exact absurd hgg (hno a hA)
      · have := hmax a hA hgg nx hlk
        omega
    · -- two old answers
      have o2 : RB.ord d a b := by
        cases d with
        | stays => trivial
        | rises => exact sh_lt.mp ho
        | falls => exact sh_lt.mp ho
      exact hd.up x y nx ny (.single ⟨a, b, trivial, trivial, j, g1, g2, d, f1, f2, hj, hlt, o2, sameL a b hs.1, sameL b a hs.2⟩) hx hy
end
end FW
/-! law. -/
namespace FW
open PySem PySem.Spec PyProof.Rows L2 Hd
section
variable {κ α β γ : Type} [DecidableEq κ] {R : Rp α} {S : Rp β} {T : Rp γ} {RK : Rp κ} {σ : L2.St} {G H : Hp} {ta tb tc td ty : TE} {K : PySem.W.Frag} {D : Ends} {u : TS} {L L' : Log} {E : XK} {mg : Str → Option Value}
theorem ev_true {X : Prop} (h : EvP rB ta σ G (fun y => (y = true ↔ X))) (x : X) : EvD rB ta σ G true := h.imp fun y hy => hy.mpr x
theorem ev_lst3 {x y z : α} (h1 : EvD R ta σ G x) (h2 : EvD R tb σ G y) (h3 : EvD R tc σ G z) : EvD (rL R) (tLst (tCons ta (tCons tb (tCons tc tNil)))) σ G [x, y, z] := fun H e Q q =>
  h1 H e _ fun v G2 H2 x n r p => h2.mono n.g H2 n.s _ fun w G3 H3 y n2 r2 p2 => h3.mono (n.g.trans n2.g) H3 n2.s _ fun u G4 H4 z n3 r3 p3 => ⟨by show 3 ≤ sizeLine; decide, fun l hl => by
    subst p p2 p3
    have n4 := Nxt.new (o := .lst [v, w, u]) n3.s hl
    exact q _ _ _ _ (((n.trans n2).trans n3).trans n4) ⟨l, _, rfl, upd_same, .cons (R.ex ((n2.g.trans n3.g).trans n4.g) r) (.cons (R.ex (n3.g.trans n4.g) r2) (.cons (R.ex n4.g r3) .nil))⟩ rfl⟩
theorem q_par3 {i j l : Nat} {PA : α → Prop} {PB : β → Prop} {PC : γ → Prop} (h1 : EvP R ta σ G PA) (h2 : EvP S tb σ G PB) (h3 : EvP T tc σ G PC) (e : Ex G H)
    (k : ∀ v w z G2 H2 x y t, Nxt G H G2 H2 → R.is G2 v x → PA x → S.is G2 w y → PB y → T.is G2 z t → PC t → u D (((σ.set i (some v)).set j (some w)).set l (some z)) H2) : tSeq (tPar3 i j l (tCons ta (tCons tb (tCons tc tNil)))) u D σ H :=
  h1 H e _ fun v G2 H2 x n r p => h2.mono n.g H2 n.s _ fun w G3 H3 y n2 r2 p2 => h3.mono (n.g.trans n2.g) H3 n2.s _ fun z G4 H4 t n3 r3 p3 => ⟨v, w, z, rfl, k v w z G4 H4 x y t ((n.trans n2).trans n3) (R.ex (n2.g.trans n3.g) r) p (S.ex n3.g r2) p2 r3 p3⟩
theorem ev_notTrue (h : EvD rB ta σ G true) : EvD rB (tOp rNotB ta (tC (.bl true))) σ G false := fun H e Q q => h H e _ fun v G2 H2 y n r p => by
  subst p; cases r
  exact ⟨true, true, rfl, rfl, q _ G2 H2 false n rfl rfl⟩
theorem ei_tup2 {x y : α} (h : EvD (rT2 R R) ta σ G (x, y)) : EvI R (iTup K ta) σ G (fun ys => ys = [x, y]) := fun H e Rr q => h H e _ fun v G2 H2 z n r p => by
  subst p
  obtain ⟨a, v1, v2, rfl, ha, h1, h2⟩ := r
  refine ⟨a, rfl, ⟨[v1, v2], SqT.of (n.s a _ ha)⟩, q _ G2 H2 _ n rfl ⟨fun i H e2 hi => ⟨[v1, v2], SqT.of (e2 a _ ha), hi⟩, fun i t ht H3 G3 e3 e4 => ?_⟩⟩
  have hp : Pd (R.is G2) [v1, v2] [x, y] := .cons h1 (.cons h2 .nil)
  obtain ⟨u, hu, ru⟩ := pd_get hp ht
  refine ⟨⟨[v1, v2], u, SqT.of (e4 a _ (e3 a _ ha)), hu⟩, fun v H' hy => ?_⟩
  obtain ⟨rfl, hv⟩ := hy
  have := hv _ (SqT.of (e4 a _ (e3 a _ ha)))
  rw [hu] at this; cases this
  exact ⟨G3, Nxt.refl e4, R.ex e3 ru⟩
theorem ev_dgetP {kf : κ → Key} {k : κ} {P : List (κ × α) → Prop} {PZ : α → Prop} (inj : ∀ a b, kf a = kf b → a = b) (hk : KeyR RK kf) (hd : EvP (rD kf R) td σ G P) (hy : EvD RK ty σ G k) (hx : ∀ xs, P xs → ∃ x, look xs k = some x ∧ PZ x) : EvP R (tDGet td ty) σ G PZ := fun H e Q q =>
  hd H e _ fun v G2 H2 ys n r p => hy.mono n.g H2 n.s _ fun w G3 H3 j n2 r2 p2 => by
    subst p2
    obtain ⟨x, hl, hz⟩ := hx ys p
    obtain ⟨a, kvs, rfl, ha, hp⟩ := rD_r ((rD kf R).ex n2.g r)
    rcases pd_look inj j hp with ⟨z, _⟩ | ⟨y, u, z, zu, ru⟩
    · rw [hl] at z; cases z
    · rw [hl] at z; cases z
      exact ⟨a, u, rfl, .inl ⟨kvs, kf j, n2.s.rd ha, hk _ _ _ r2, zu.symm⟩, q u G3 H3 x (n.trans n2) ru hz⟩
theorem ev_isIn {x : Str} (ha : EvD rS ta σ G x) (hb : EvP (rL rS) tb σ G (fun ys => x ∈ ys)) : EvD rB (tOp (L2.rIn K true) ta tb) σ G false := ev_op ha hb fun G2 v z w y e r1 p1 r2 p2 H e2 Q q => by
  subst p1
  cases r1
  obtain ⟨a, vs, rfl, ha, hp⟩ := r2
  have hv := pd_strs hp
  refine ⟨a, vs, rfl, .inl (SqL.of (e2 a _ ha)), rfl, by rw [hv]; exact flat_strs _, q _ G2 H false (Nxt.refl e2) ?_ rfl⟩
  show V.bl (if true = true then !inV (.str z) vs else inV (.str z) vs) = V.bl false
  rw [if_pos rfl, hv, inV_strs, decide_eq_true p2]; rfl
theorem ev_nilD {ys : List Nat} (h : EvP (rL rN) ta σ G (fun y => y = [])) : EvD rB (tOp (rNeD K) ta (tLst tNil)) σ G false := ev_op (S := rL rN) (PB := fun y => y = []) h ev_nil fun G2 v z w y e r1 p1 r2 p2 H e2 Q q => by
  subst p1 p2
  obtain ⟨a, vs, rfl, ha, hp⟩ := r1
  obtain ⟨b, ws, rfl, hb, hp2⟩ := r2
  cases hp; cases hp2
  exact ⟨.list [], .list [], .lst (SqL.of (e2 a _ ha)) .nil, .lst (SqL.of (e2 b _ hb)) .nil, by decide +kernel, by decide +kernel, q _ G2 H false (Nxt.refl e2) rfl rfl⟩
theorem ev_says (W : WfL L) (W' : WfL L') (hi : L.items = L'.items) (h1 : EvD (rLog K) ta σ G L) (h2 : EvD (rLog K) tb σ G L') : EvP rB (tCall (sp_says_all K) [] E (tCons ta (tCons tb tNil))) σ G (fun y => (y = true ↔ HasAll (BtA L) (BtA L'))) :=
  ev_call2 h1 h2 fun G3 v1 x1 w1 y1 e3 r1 p1 r2 p2 => by
    subst p1 p2
    exact mkSp_use (args := aL2 K) (x1, y1) ⟨⟨W, W', hi⟩, v1, w1, rfl, r1, r2⟩
theorem ev_same (W : WfL L) (W' : WfL L') (hi : L.items = L'.items) (h1 : EvD (rLog K) ta σ G L) (h2 : EvD (rLog K) tb σ G L') : EvP rB (tCall (sp_say_same K) [] E (tCons ta (tCons tb tNil))) σ G (fun y => (y = true ↔ HasAll (BtA L) (BtA L') ∧ HasAll (BtA L') (BtA L))) :=
  ev_call2 h1 h2 fun G3 v1 x1 w1 y1 e3 r1 p1 r2 p2 => by
    subst p1 p2
    exact mkSp_use (args := aL2 K) (x1, y1) ⟨⟨W, W', hi⟩, v1, w1, rfl, r1, r2⟩
open Classical in
theorem ev_ringN (W : WfL L) (h : EvD (rLog K) ta σ G L) : EvD rB (tOp (fun x y H Q => y = V.non ∧ Q (V.bl (decide (x = V.non))) H) (tCall (sp_ring_of K) [] E (tCons ta tNil)) (tC .non)) σ G (decide (¬ ∃ x, BtA L x x)) :=
  (ev_isNP (ev_lc0 W h)).imp fun b hb => by
    obtain ⟨x, hx, rfl⟩ := hb
    cases x with
    | none => exact (decide_eq_true (hx.mp rfl)).symm
    | some y => exact (decide_eq_false fun c => by cases hx.mpr c).symm
theorem ev_notNP {PA : Option α → Prop} (h : EvP (rO R) ta σ G PA) : EvP rB (tOp (fun x y H Q => y = V.non ∧ Q (V.bl (!decide (x = V.non))) H) ta (tC .non)) σ G (fun b => ∃ x, PA x ∧ b = x.isSome) := fun H e Q q => h H e _ fun v G2 H2 y n r p => by
  refine ⟨rfl, q _ G2 H2 _ n rfl ⟨y, p, ?_⟩⟩
  cases y with
  | none => rw [show v = .non from r]; rfl
  | some z => rw [decide_eq_false r.1]; rfl
open Classical in
theorem ev_ringS (W : WfL L) (h : EvD (rLog K) ta σ G L) : EvD rB (tOp (fun x y H Q => y = V.non ∧ Q (V.bl (!decide (x = V.non))) H) (tCall (sp_ring_of K) [] E (tCons ta tNil)) (tC .non)) σ G (decide (∃ x, BtA L x x)) :=
  (ev_notNP (ev_lc0 W h)).imp fun b hb => by
    obtain ⟨x, hx, rfl⟩ := hb
    cases x with
    | none => exact (decide_eq_false (hx.mp rfl)).symm
    | some y => exact (decide_eq_true (Classical.byContradiction fun c => by cases hx.mpr c)).symm
theorem ev_expB (T : Tx K mg) {X : Expl} (h : EvD (rExp K) ta σ G X) : EvD (rD kN (rL FW.rI)) (tFld K ta "bars") σ G X.2 := ev_fld h fun G2 v y e r p => by
  subst p
  obtain ⟨a, dx, v1, v2, h1, h2, h3, h4⟩ := r
  exact ⟨a, _, dx, _, _, h1, h2, T.cls 41 rfl, T.noat 49 rfl, rfl, h4⟩
theorem ev_expQ (T : Tx K mg) {X : Expl} (h : EvD (rExp K) ta σ G X) : EvD (rD kS FW.rI) (tFld K ta "qualities") σ G X.1 := ev_fld h fun G2 v y e r p => by
  subst p
  obtain ⟨a, dx, v1, v2, h1, h2, h3, h4⟩ := r
  exact ⟨a, _, dx, _, _, h1, h2, T.cls 41 rfl, T.noat 48 rfl, rfl, h3⟩
end
/-- another log that says the same -/
structure Alike (L X : Log) : Prop where
  wf : WfL X
  it : L.items = X.items
  one : HasAll (BtA L) (BtA X)
  two : HasAll (BtA X) (BtA L)
section
variable {P : Program} {w : World} {K : PySem.W.Frag} {mg : Str → Option Value} {base : Heap}

abbrev N_law : List Str := ["_law_script", "_law_numbers_here", "_law_parts", "_law_log_here", "_law_places", "_law_link", "_law_told", "_law_answers", "_law_place", "_law_item", "_law_grade", "_law_wider", "_law_outer", "_law_thin", "_law_back", "_law_name", "_law_drift", "_law_worse", "_law_better", "_law_way", "_law_bar", "_law_other"]
theorem sc_law : FnScope N_law ["_law_script"] (defScope s_law) := ⟨rfl, rfl, rfl, by decide +kernel, rfl, by decide +kernel, by decide +kernel⟩
theorem mk_law (T : Tx K mg) {sp : Sp} (len : ∀ vs H Q E, sp vs H Q E → vs.length = 1)
    (hb : ∀ (cdv : Value) (A : Around) (outer : List Env) (s : Shared) (H : Hp) (vs : List V) (Q : VK) (E : XK), Room 11 (A.deeper (envOfC "law" (defScope s_law) s.heap.objs.size (He.ga K "law") cdv)) → sp vs H Q E →
      ∃ t, PSs (cxOf CX0 P w K mg base N_law "law" (defScope s_law) (He.ga K "law") cdv A outer s H E).nox (defBody s_law) t ∧ t { nx := fun _ H' => Q .non H', rt := Q } (start N_law vs) H) : Cal P w K mg base 12 "law" sp := by
  obtain ⟨fd, F⟩ := T.fn 59 rfl
  have b : Binds K fd ["_law_script"] [] := F.binds fun _ _ _ _ _ _ us hl => match us, hl with | [_], _ => rfl
  exact ⟨_, fd, _, F.ok sc_law len hb, T.glo 35 rfl, F.kp, b⟩
def sp_law (K : PySem.W.Frag) : Sp := fun vs H Q _ => ∃ (G : Hp) (ns : List Int) (v : V), Ex G H ∧ vs = [v] ∧ (rSc K).is G v ns ∧ ∀ H', Q (.bl true) H'
theorem ln_law {K : PySem.W.Frag} : ∀ vs H Q E, sp_law K vs H Q E → vs.length = 1 := by
  rintro vs H Q E ⟨_, _, _, _, rfl, _⟩; rfl
theorem hb_law (T : Tx K mg) : ∀ (cdv : Value) (A : Around) (outer : List Env) (s : Shared) (H : Hp) (vs : List V) (Q : VK) (E : XK), Room 11 (A.deeper (envOfC "law" (defScope s_law) s.heap.objs.size (He.ga K "law") cdv)) → sp_law K vs H Q E →
      ∃ t, PSs (cxOf CX0 P w K mg base N_law "law" (defScope s_law) (He.ga K "law") cdv A outer s H E).nox (defBody s_law) t ∧ t { nx := fun _ H' => Q .non H', rt := Q } (start N_law vs) H := (fun cdv A outer s H vs Q E hr h => by
  have hu := hu_of hr
  have nd := sc_law.nd
  obtain ⟨G, ns, v, e, rfl, hv, q⟩ := h
  refine ⟨_, pss_cons (ps_set (i := 1) nd rfl (Or.inl rfl) (pe_c (ok_law_numbers T) hr (pa_cons (pv 0) (pa_cons (pe_int) pa_nil))))
      (pss_cons (ps_set (i := 2) nd rfl (Or.inl rfl) (pe_c (ok_law_log T) hr (pa_cons (pv 1) (pa_cons (pe_int) (pa_cons (pe_int) (pa_cons (pe_int) pa_nil))))))
      (pss_cons (ps_set (i := 3) nd rfl (Or.inr rfl) (pe_c (ok_law_made T) hr (pa_cons (pv 2) pa_nil)))
      (pss_cons (ps_par3 (i := 12) (j := 13) (l := 14) rfl nd rfl rfl rfl (by decide) (by decide) (by decide) rfl rfl rfl (pa_cons (pe_m (ok_Log_only T) hr (pv 3) (pa_cons (pe_c (ok_outer_answers T) hr (pa_cons (pv 3) pa_nil)) pa_nil)) (pa_cons (pe_c (ok_thinned T) hr (pa_cons (pv 3) pa_nil)) (pa_cons (pe_m00 (ok_Log_backwards T) hr (pv 3)) pa_nil))) (by rfl))
      (pss_cons (ps_if (pt_not (pt_val (pe_callB (k_all (K := K) rfl rfl) (by rfl) (T.free 79 rfl) (by decide +kernel) (pa_cons (pe_lc (own := [("_law_other", 21)]) (g := (gName 21)) (tt := tYes) rfl nd (k_iList (K := K) rfl (pe_lst (pa_cons (pv 12) (pa_cons (pv 13) (pa_cons (pv 14) pa_nil))))) (blkOk_by (by kernel_rfl)) (fun _ _ _ _ _ => pg_name (i := 21) nd rfl (by first | exact Or.inl rfl | exact Or.inr rfl)) (fun _ _ _ _ _ => pts_nil) (fun _ _ _ _ _ => pe_and (pe_c (ok_say_same T) hr (pa_cons (pv 3) (pa_cons (pv 21) pa_nil))) (pe_one (pe_c (ok_say_same T) hr (pa_cons (pv 21) (pa_cons (pv 3) pa_nil)))))) pa_nil)))) (pss_one (ps_ret (pe_bl))) (pss_nil))
      (pss_cons (ps_if (PW.pt (pw_or (pt_cmpR (k_neD (K := K) rfl hr.units) (pe_c (ok_needless_answers T) hr (pa_cons (pv 13) pa_nil)) (pe_lst (pa_nil)) (nomark _)) (pw_or1 (pt_cmpR op_ne (pe_cmpR op_isN (pe_c (ok_ring_of T) hr (pa_cons (pv 14) pa_nil)) pe_non (nomark _)) (pe_cmpR op_isN (pe_c (ok_ring_of T) hr (pa_cons (pv 3) pa_nil)) pe_non (nomark _)) (nomark _))))) (pss_one (ps_ret (pe_bl))) (pss_nil))
      (pss_cons (ps_for PassesOwn.never rfl (k_iList (K := K) rfl (pe_ix (k_ixT (K := K) rfl) (pv 2) (pe_int) (fun _ _ => rfl))) (pg_tup rfl (pgs_cons (pg_name (i := 15) nd rfl (Or.inl rfl)) (pgs_cons (pg_name (i := 16) nd rfl (Or.inl rfl)) pgs_nil))) (pss_one (ps_if (pt_cmpR op_notBl (pe_c (ok_says_all T) hr (pa_cons (pe_m (ok_Log_with_drift T) hr (pv 3) (pa_cons (pv 15) (pa_cons (pe_str) pa_nil))) (pa_cons (pv 3) pa_nil))) (pe_bl) (nomark _)) (pss_one (ps_ret (pe_bl))) (pss_nil))))
      (pss_cons (ps_if (pt_cmpR op_notN (pe_c (ok_ring_of T) hr (pa_cons (pv 3) pa_nil)) pe_non (nomark _)) (pss_one (ps_ret (pe_cmpR op_isN (pe_c (ok_explanation T) hr (pa_cons (pv 3) pa_nil)) pe_non (nomark _)))) (pss_nil))
      (pss_cons (ps_for PassesOwn.never rfl (k_iList (K := K) rfl (pe_c (ok_covers_of T) hr (pa_cons (pv 3) pa_nil))) (pg_tup rfl (pgs_cons (pg_name (i := 17) nd rfl (Or.inl rfl)) (pgs_cons (pg_name (i := 18) nd rfl (Or.inl rfl)) pgs_nil))) (pss_cons (ps_set (i := 19) nd rfl (Or.inl rfl) (pe_c (ok_way_between T) hr (pa_cons (pv 3) (pa_cons (pv 17) (pa_cons (pv 18) pa_nil)))))
      (pss_one (ps_if (PW.pt (pw_or (pt_cmpR op_isN (pv 19) pe_non (nomark _)) (pw_or (pt_cmpR op_ne (pe_callB (k_len (K := K) rfl) (by rfl) (T.free 74 rfl) (by decide +kernel) (pa_cons (pv 19) pa_nil)) (pe_int) (nomark _)) (pw_or1 (pt_cmpR (k_notIn (K := K) rfl) (pv 17) (pe_dget hu (pe_c (ok_worse_than T) hr (pa_cons (pv 3) pa_nil)) (pv 18) (fun _ _ => rfl)) rfl))))) (pss_one (ps_ret (pe_bl))) (pss_nil)))))
      (pss_cons (ps_set (i := 4) nd rfl (Or.inr rfl) (pe_lst (pa_nil)))
      (pss_cons (ps_for PassesOwn.never rfl (k_iList (K := K) rfl (pe_c (ok_least_links T) hr (pa_cons (pv 3) pa_nil))) (pg_name (i := 5) nd rfl (Or.inl rfl)) (pss_one (ps_set (i := 4) nd rfl (Or.inr rfl) (pe_op op_cat (pv 4) (pe_lc (own := [("_law_place", 8)]) (g := (gName 8)) rfl nd (k_iTup (K := K) rfl (pv 5)) (blkOk_by (by kernel_rfl)) (fun _ _ _ _ _ => pg_name (i := 8) nd rfl (by first | exact Or.inl rfl | exact Or.inr rfl)) (fun _ _ _ _ _ => (pts_one (pt_cmpR (k_notIn (K := K) rfl) (pv 8) (pv 4) rfl))) (fun _ _ _ _ _ => pv 8))))))
      (pss_cons (ps_if (pt_cmpR op_notBl (pe_c (ok_say_same T) hr (pa_cons (pv 3) (pa_cons (pe_m (ok_Log_only T) hr (pv 3) (pa_cons (pv 4) pa_nil)) pa_nil))) (pe_bl) (nomark _)) (pss_one (ps_ret (pe_bl))) (pss_nil))
      (pss_cons (ps_set (i := 6) nd rfl (Or.inr rfl) (pe_c (ok_explanation T) hr (pa_cons (pv 3) pa_nil)))
      (pss_cons (ps_set (i := 7) nd rfl (Or.inl rfl) (pe_m00 (ok_Log_answers T) hr (pv 3)))
      (pss_cons (ps_if (pt_cmpR op_eq (pe_callB (k_len (K := K) rfl) (by rfl) (T.free 74 rfl) (by decide +kernel) (pa_cons (pv 7) pa_nil)) (pe_int) (nomark _)) (pss_one (ps_ret (pe_bl))) (pss_nil))
      (pss_cons (ps_set (i := 8) nd rfl (Or.inl rfl) (pe_ix (k_ixL (K := K) rfl) (pv 7) (pe_op op_mod (pe_callTy call_int1 (by rfl) (T.free 86 rfl) (by decide +kernel) (pa_cons (pe_ix (k_ixL (K := K) rfl) (pv 1) (pe_int) (fun _ _ => rfl)) pa_nil)) (pe_callB (k_len (K := K) rfl) (by rfl) (T.free 74 rfl) (by decide +kernel) (pa_cons (pv 7) pa_nil))) (fun _ _ => rfl)))
      (pss_cons (ps_set (i := 9) nd rfl (Or.inr rfl) (pe_ix (k_ixL (K := K) rfl) (pe_ix (k_ixT (K := K) rfl) (pv 2) (pe_int) (fun _ _ => rfl)) (pe_op op_mod (pe_callTy call_int1 (by rfl) (T.free 86 rfl) (by decide +kernel) (pa_cons (pe_ix (k_ixL (K := K) rfl) (pv 1) (pe_int) (fun _ _ => rfl)) pa_nil)) (pe_callB (k_len (K := K) rfl) (by rfl) (T.free 74 rfl) (by decide +kernel) (pa_cons (pe_ix (k_ixT (K := K) rfl) (pv 2) (pe_int) (fun _ _ => rfl)) pa_nil))) (fun _ _ => rfl)))
      (pss_cons (ps_set (i := 10) nd rfl (Or.inl rfl) (pe_callB (k_len (K := K) rfl) (by rfl) (T.free 74 rfl) (by decide +kernel) (pa_cons (pe_lc (own := [("_law_bar", 20)]) (g := (gName 20)) rfl nd (k_iList (K := K) rfl (pe_dget hu (k_fld (K := K) rfl (pv 6) rfl) (pv 8) (fun _ _ => rfl))) (blkOk_by (by kernel_rfl)) (fun _ _ _ _ _ => pg_name (i := 20) nd rfl (by first | exact Or.inl rfl | exact Or.inr rfl)) (fun _ _ _ _ _ => (pts_one (pt_cmpR op_le (pv 20) (pe_dget hu (k_fld (K := K) rfl (pv 6) rfl) (pv 9) (fun _ _ => rfl)) (nomark _)))) (fun _ _ _ _ _ => pv 20)) pa_nil)))
      (pss_cons (ps_set (i := 11) nd rfl (Or.inl rfl) (pe_m (ok_Log_with_event_at T) hr (pv 3) (pa_cons (pe_op op_add (pv 8) (pe_op op_mod (pe_callTy call_int1 (by rfl) (T.free 86 rfl) (by decide +kernel) (pa_cons (pe_ix (k_ixL (K := K) rfl) (pv 1) (pe_int) (fun _ _ => rfl)) pa_nil)) (pe_int))) (pa_cons (pe_tup (pa_cons (pe_str) (pa_cons (pe_m (ok_Log_judge_at T) hr (pv 3) (pa_cons (pv 8) pa_nil)) (pa_cons (pv 9) (pa_cons (pv 10) pa_nil))))) pa_nil))))
      (pss_one (ps_ret (pe_and (pe_cmpR op_isN (pe_c (ok_ring_of T) hr (pa_cons (pv 11) pa_nil)) pe_non (nomark _)) (pe_one (pe_c (ok_says_all T) hr (pa_cons (pv 11) (pa_cons (pv 3) pa_nil))))))))))))))))))))))))), ?_⟩
  have qt : ∀ {v' : V} {G' H' : Hp} {b : Bool}, rB.is G' v' b → b = true → Q v' H' := fun {v' G' H' b} hv hb => by
    subst hb
    have hv : v' = .bl true := hv
    subst hv
    exact q H'
  refine q_asgP (R := rL FW.rI) (PA := fun y => y.length = 60 ∧ ∀ x ∈ y, NumOk x) (ev_call2 (R := rSc K) (S := FW.rI) (PB := fun y => y = 60) (ev_var rfl hv) ev_int fun G3 v1 x1 w1 y1 e3 r1 p1 r2 p2 => ?_) e fun vn G1 H1 nums n1 rn hn => ?_
  · subst p1 p2
    cases r2
    exact mkSp_use (args := aNum K) x1 ⟨v1, rfl, r1⟩
  have nx : ∀ k : Nat, k < 60 → ∃ x, nums[k]? = some x := fun k hk => ⟨nums[k]'(by omega), List.getElem?_eq_getElem (by omega)⟩
  have mod_nat : ∀ (x m : Int), 0 < m → ∃ r : Nat, x % m = (r : Int) ∧ (r : Int) < m := fun x m hm => ⟨(x % m).toNat, by have := Int.emod_nonneg x (by omega : m ≠ 0); omega, by have := Int.emod_lt_of_pos x hm; have := Int.emod_nonneg x (by omega : m ≠ 0); omega⟩
  refine q_asgP (R := rParts) (PA := fun y => ∃ L : Log, WfL L ∧ L.events.length ≤ 20 ∧ y = (L.items, L.grades, L.judges, L.events)) (ev_call4 (R := rL FW.rI) (S := FW.rI) (T := FW.rI) (U := FW.rI) (PA := fun y => y = nums) (PB := fun y => y = 0) (PC := fun y => y = 6) (PD := fun y => y = 20) (ev_var rfl rn) ev_int ev_int ev_int fun G3 a1 b1 a2 b2 a3 b3 a4 b4 e3 q1 p1 q2 p2 q3 p3 q4 p4 => ?_) n1.s fun vp G2 H2 parts n2 rp hp => ?_
  · subst p1 p2 p3 p4
    cases q2; cases q3; cases q4
    exact mkSp_use (args := aLl) b1 ⟨hn, a1, rfl, q1⟩
  obtain ⟨L, W, h20, rfl⟩ := hp
  refine q_asg (R := rLog K) (x := L) (ev_call1 (R := rParts) (ev_var rfl rp) fun G3 v1 x1 e3 r1 p1 => ?_) n2.s fun vl G3 H3 n3 rl => ?_
  · subst p1
    exact mkSp_use (args := aMad) L ⟨W, v1, rfl, r1⟩
  refine q_par3 (R := rLog K) (S := rLog K) (T := rLog K) (PA := fun y => ∃ ys, IsOut L ys ∧ y = onlyL L ys) (PB := fun y => IsThin L y) (PC := fun y => y = backL L) (ev_meth1 (R := rLog K) (S := rL rN) (PB := fun y => IsOut L y) (log_ins) (ev_var rfl rl) (ev_lc0 W (ev_var rfl rl)) fun G4 v1 x1 w1 y1 e3 r1 p1 r2 p2 => ?_) (ev_lc0 W (ev_var rfl rl)) (ev_lm0 W (ev_var rfl rl)) n3.s fun vo vt vb G4 H4 O T B n4 ro hO rt hT rb hB => ?_
  · subst p1
    exact (mkSp_use (args := aOnl K) (x1, y1) ⟨⟨W, p2.ans⟩, v1, w1, rfl, r1, r2⟩).imp fun z hz => ⟨y1, p2, hz⟩
  have rl4 := (rLog K).ex n4.g rl
  obtain ⟨ys, hys, rfl⟩ := hO
  obtain ⟨⟨ts, htans, rfl, htsame, htmin⟩⟩ := hT
  subst hB
  have aO : Alike L (onlyL L ys) := ⟨W.only ys, rfl, .inr fun x y t => only_le t, .inr fun x y t => (out_bt hys x y).mpr t⟩
  have aT : Alike L (onlyL L ts) := ⟨W.only ts, rfl, .inr fun x y t => only_le t, by
    rcases htsame with ⟨x, h⟩ | h
    · exact .inl ⟨x, (only_bt x x).mpr h⟩
    · exact .inr fun x y t => (only_bt x y).mpr (h x y t)⟩
  have aB : Alike L (backL L) := ⟨W.back, rfl, .inr fun x y t => (back_bt x y).mp t, .inr fun x y t => (back_bt x y).mpr t⟩
  refine q_if1 (b := false) (et_not (a := true) (et_B (ev_val (ev_all (ev_lcM (R := rLog K) (f := fun _ => true) (xs := [onlyL L ys, onlyL L ts, backL L]) (ei_list (ev_lst3 (ev_var rfl ro) (ev_var rfl rt) (ev_var rfl rb))) (by show 3 ≤ 100000; decide) fun x hx G5 u e5 r => ?_)) rfl))) n4.s (fun hb => by cases hb) fun _ G5 H5 n5 => ?_
  · have ax : Alike L x := by
      simp only [List.mem_cons, List.mem_nil_iff, or_false] at hx
      rcases hx with rfl | rfl | rfl
      · exact aO
      · exact aT
      · exact aB
    have rl5 := (rLog K).ex e5 rl4
    exact ⟨_, tg_name, rfl, ev_val (ev_andV (a := true) (b := true) (ev_true (ev_same W ax.wf ax.it (ev_var rfl rl5) (ev_var rfl r)) ⟨ax.one, ax.two⟩) fun _ => ev_true (ev_same ax.wf W ax.it.symm (ev_var rfl r) (ev_var rfl rl5)) ⟨ax.two, ax.one⟩) rfl⟩
  have rl5 := (rLog K).ex n5.g rl4
  refine q_if1 (b := false) (et_val (et_or (a := false) (b := false) (et_test (ev_nilD (ys := []) ((ev_lc0 (W.only ts) (ev_var rfl ((rLog K).ex n5.g rt))).imp fun y hy => ?_))) fun _ => et_test (ev_val (ev_neB (ev_ringN W.back (ev_var rfl ((rLog K).ex n5.g rb))) (ev_ringN W (ev_var rfl rl5))) ?_)) rfl) n5.s (fun hb => by cases hb) fun _ G6 H6 n6 => ?_
  · refine List.eq_nil_iff_forall_not_mem.mpr fun p hp => ?_
    have := (hy p).mp hp
    exact thin_min htsame htmin this.1 this.2
  · have : (∃ x, BtA (backL L) x x) ↔ ∃ x, BtA L x x := ⟨fun ⟨x, h⟩ => ⟨x, (back_bt x x).mp h⟩, fun ⟨x, h⟩ => ⟨x, (back_bt x x).mpr h⟩⟩
    rw [bne_eq_false_iff_eq]
    exact decide_eq_decide.mpr (not_congr this)
  have rl6 := (rLog K).ex n6.g rl5
  have x26 : Ex G2 G6 := n3.g.trans (n4.g.trans (n5.g.trans n6.g))
  have part : ∀ {β : Type} {S : Rp β} {σ : L2.St} {G' : Hp} (k : Nat) (x : β), σ[2]? = some (some vp) → Ex G2 G' → (∀ G2 v, rParts.is G2 v (L.items, L.grades, L.judges, L.events) → ∃ a vs w, v = .ref a ∧ G2 a = some (.tup vs) ∧ vs[k]? = some w ∧ S.is G2 w x) → EvD S (tOp (rIxT K) (tVar 2) (tC (.int (k : Int)))) σ G' x := fun k x hσ e2 h => ev_ixT (R := rParts) (PA := fun y => y = (L.items, L.grades, L.judges, L.events)) (ev_var hσ (rParts.ex e2 rp)) fun G2 v y e3 r p => by
    subst p
    exact h G2 v r
  refine q_for (ei_list (R := rJ) (P := fun xs => xs = L.judges) (part 2 L.judges rfl x26 fun G2 v r => by
    obtain ⟨a, v1, v2, v3, v4, rfl, h, h1, h2, h3, h4⟩ := r
    exact ⟨a, _, v3, rfl, h, rfl, h3⟩)) n6.s (fun xs G7 H7 hxs n7 => ?_)
  subst hxs
  refine ⟨fun k σ' G' H' => ∃ a15 a16, σ' = [some v, some vn, some vp, some vl, none, none, none, none, none, none, none, none, some vo, some vt, some vb, a15, a16, none, none, none, none, none], ⟨_, _, rfl⟩, ?_, ?_⟩
  · rintro k x σ' G' H' hx e1 e2 ⟨a15, a16, rfl⟩ w1 G8 H8 n8 ⟨t, v1, v2, rfl, ht, h1, h2⟩
    have hxj : x.1 ∈ L.judges.map (·.1) := List.mem_map.mpr ⟨x, List.mem_of_getElem? hx, rfl⟩
    refine tg_tup2 ht tg_name tg_name H8 n8.s _ ?_
    have rl8 := (rLog K).ex (n7.g.trans (e1.trans n8.g)) rl6
    refine s_if (b := false) (et_test (ev_notTrue ((ev_call2 (R := rLog K) (S := rLog K) (PA := fun y => y = driftL L x.1 .stays) (PB := fun y => y = L) (ev_meth2 (R := rLog K) (S := rS) (T := rDf) (PB := fun y => y = x.1) (PC := fun y => y = .stays) (log_ins) (ev_var rfl rl8) (ev_var rfl h1) (ev_c rfl) fun G9 v1 x1 w1 y1 w2 y2 e3 r1 p1 r2 p2 r3 p3 => ?_) (ev_var rfl rl8) fun G9 v1 x1 w1 y1 e3 r1 p1 r2 p2 => ?_ : EvP rB _ _ _ (fun y => (y = true ↔ HasAll (BtA (driftL L x.1 .stays)) (BtA L)))) |> fun hh => ev_true hh (.inr fun x y t => stay_bt t)))) n8.s (fun hb => by cases hb) (fun _ G9 H9 n9 => ?_)
    · subst p1 p2 p3
      cases r2
      have r3 : w2 = .str (dStr .stays) := r3
      subst r3
      exact mkSp_use (args := aWd K) (x1, x.1, .stays) ⟨⟨W, hxj⟩, v1, rfl, r1⟩
    · subst p1 p2
      exact mkSp_use (args := aL2 K) (driftL y1 x.1 .stays, y1) ⟨⟨W.driftL _ _, W, rfl⟩, v1, w1, rfl, r1, r2⟩
    · exact ⟨G9, (e1.trans n8.g).trans n9.g, n9.s, _, _, rfl⟩
  rintro σ' G8 H8 e1 e2 ⟨a15, a16, rfl⟩
  have rl8 := (rLog K).ex (n7.g.trans e1) rl6
  have x28 : Ex G2 G8 := x26.trans (n7.g.trans e1)
  open Classical in
  refine q_if1 (b := decide (∃ x, BtA L x x)) (et_test (ev_ringS W (ev_var rfl rl8))) e2 (fun hb G9 H9 n9 => ?_) fun hb G9 H9 n9 => ?_
  · have hrg := of_decide_eq_true hb
    refine s_retP (ev_isNP (ev_lc0 W (ev_var rfl ((rLog K).ex n9.g rl8)))) n9.s fun v5 G5 H5 b n5 r5 hb => qt r5 ?_
    obtain ⟨x, hx, rfl⟩ := hb
    rw [hx.no.mpr hrg]; rfl
  have hnr := of_decide_eq_false hb
  have hno : ∀ x, ¬ BtA L x x := fun x hx => hnr ⟨x, hx⟩
  have rl9 := (rLog K).ex n9.g rl8
  have x29 : Ex G2 G9 := x28.trans n9.g
  refine q_for (ei_list (R := rT2 rS rS) (P := fun y => IsCov (BtA L) y) (ev_call1 (R := rLog K) (ev_var rfl rl9) fun G10 v1 x1 e3 r1 p1 => by
    subst p1
    exact mkSp_use (args := aLogR K) x1 ⟨W, hno, v1, rfl, r1⟩)) n9.s (fun cs G10 H10 hcs n10 => ?_)
  refine ⟨fun k σ' G' H' => ∃ a17 a18 a19, σ' = [some v, some vn, some vp, some vl, none, none, none, none, none, none, none, none, some vo, some vt, some vb, a15, a16, a17, a18, a19, none, none], ⟨_, _, _, rfl⟩, ?_, ?_⟩
  · rintro k x σ' G' H' hx e1 e2 ⟨a17, a18, a19, rfl⟩ w1 G11 H11 n11 ⟨t, v1, v2, rfl, ht, h1, h2⟩
    cases h1; cases h2
    have hcov := (hcs.mem x.1 x.2).mp (List.mem_of_getElem? hx)
    have hin := W.bt hcov.1
    refine tg_tup2 ht tg_name tg_name H11 n11.s _ ?_
    have rl11 := (rLog K).ex (n10.g.trans (e1.trans n11.g)) rl9
    refine q_asgP (R := rO rWay) (PA := fun y => IsWay (RB.LkR L RB.All) x.1 x.2 y) (ev_call3 (R := rLog K) (S := rS) (T := rS) (ev_var rfl rl11) (ev_var rfl rfl) (ev_var rfl rfl) fun G12 v1 x1 w1 y1 w2 y2 e3 r1 p1 r2 p2 r3 p3 => ?_) n11.s fun vw G12 H12 way n12 rw_ hw => ?_
    · subst p1
      cases r2; cases r3
      have p2 : y1 = x.1 := p2
      have p3 : y2 = x.2 := p3
      subst p2 p3
      exact mkSp_use (args := aWayB K) (x1, x.1, x.2) ⟨W, hin, v1, rfl, r1⟩
    · obtain ⟨ww, rfl, hwl⟩ := hw.one (tg_cov hcov)
      have rl12 := (rLog K).ex n12.g rl11
      refine s_if (b := false) (et_val (et_or (a := false) (b := false) (et_test (ev_isN (ev_var rfl rw_))) fun _ => et_val (et_or (a := false) (b := false) (et_test (ev_val (ev_neI (ev_N (ev_len (ev_var rfl rw_.2))) ev_int) (by rw [hwl]; rfl))) fun _ => et_test (ev_isIn (ev_var rfl rfl) (ev_dgetP (RK := rS) (P := fun ds => IsB L.items (fun a b => BtA L b a) ds) inj_S key_S (ev_lc0 W (ev_var rfl rl12)) (ev_var rfl rfl) fun ds hds => ?_))) rfl) rfl) n12.s (fun hb => by cases hb) fun _ G13 H13 n13 => ?_
      · obtain ⟨r, g1, _, g3⟩ := hds.row x.2 hin.2
        exact ⟨r, g1, (g3 x.1).mpr hcov.1⟩
      · exact ⟨G13, (e1.trans n11.g).trans (n12.g.trans n13.g), n13.s, _, _, _, rfl⟩
  rintro σ' G11 H11 e1 e2 ⟨a17, a18, a19, rfl⟩
  have rl11 := (rLog K).ex (n10.g.trans e1) rl9
  have x211 : Ex G2 G11 := x29.trans (n10.g.trans e1)
  refine q_asg (R := rL rN) (x := []) ev_nil e2 fun v4 G12 H12 n12 r4 => ?_
  refine q_for (ei_list (R := rT2 rN rN) (P := fun y => IsLeast L y) (ev_call1 (R := rLog K) (ev_var rfl ((rLog K).ex n12.g rl11)) fun G13 v1 x1 e3 r1 p1 => by
    subst p1
    exact mkSp_use (args := aLogR K) x1 ⟨W, hno, v1, rfl, r1⟩)) n12.s (fun ls G13 H13 hls n13 => ?_)
  refine ⟨fun k σ' G' H' => ∃ v4 a5 pl, σ' = [some v, some vn, some vp, some vl, some v4, a5, none, none, none, none, none, none, some vo, some vt, some vb, a15, a16, a17, a18, a19, none, none] ∧ (rL rN).is G' v4 pl ∧ pl.length ≤ 2 * k ∧ (∀ p ∈ pl, isAns L p = true) ∧ ∀ p q, (p, q) ∈ ls.take k → p ∈ pl ∧ q ∈ pl, ⟨v4, _, [], rfl, (rL rN).ex n13.g r4, by simp, by simp, by simp⟩, ?_, ?_⟩
  · rintro k x σ' G' H' hx e1 e2 ⟨v4, a5, pl, rfl, r4, hpl, hpa, hps⟩ w1 G14 H14 n14 r14
    obtain ⟨xa, xb⟩ := x
    have hxa := hls.ans xa xb (List.mem_of_getElem? hx)
    have hk : k < ls.length := (List.getElem?_eq_some_iff.mp hx).1
    have hl36 := hls.len
    have r414 := (rL rN).ex n14.g r4
    have take1 : ls.take (k + 1) = ls.take k ++ [(xa, xb)] := by rw [List.take_add_one, hx]; rfl
    refine s_asg (R := rL rN) (x := pl ++ ([xa, xb].filter fun p => !decide (p ∈ pl))) (ev_cat (ev_var rfl r414) (ev_val (ev_lcD (R := rN) (f := fun p => p) (p := fun p => !decide (p ∈ pl)) (ei_tup2 (R := rN) (ev_var rfl r14)) (by show 2 ≤ 100000; decide) fun p hp G15 u e15 r => ?_) (List.map_id' _)) ?_) n14.s fun v5 G15 H15 n15 r15 => ?_
    · cases r
      exact ⟨_, tg_name, rfl, et_test (ev_notInN (ev_var rfl rfl) (ev_var rfl ((rL rN).ex e15 r414))), fun _ => ev_var rfl rfl⟩
    · have := List.length_filter_le (fun p => !decide (p ∈ pl)) [xa, xb]
      simp only [List.length_cons, List.length_nil] at this
      omega
    · have memP : ∀ p, p ∈ pl ++ ([xa, xb].filter fun p => !decide (p ∈ pl)) ↔ p ∈ pl ∨ p = xa ∨ p = xb := fun p => by
        rw [List.mem_append, List.mem_filter, List.mem_cons, List.mem_singleton, Bool.not_eq_true', decide_eq_false_iff_not]
        constructor
        · rintro (h | h)
          · exact .inl h
          · exact .inr h.1
        · rintro (h | h)
          · exact .inl h
          · by_cases c : p ∈ pl
            · exact .inl c
            · exact .inr ⟨h, c⟩
      refine ⟨G15, (e1.trans n14.g).trans n15.g, n15.s, v5, _, _, rfl, r15, ?_, fun p hp => ?_, fun p q' hpq => ?_⟩
      · have := List.length_filter_le (fun p => !decide (p ∈ pl)) [xa, xb]
        simp only [List.length_cons, List.length_nil] at this
        rw [List.length_append]
        omega
      · rcases (memP p).mp hp with h | h | h
        · exact hpa p h
        · rw [h]; exact hxa.1
        · rw [h]; exact hxa.2
      · rw [take1] at hpq
        rcases List.mem_append.mp hpq with h | h
        · have := hps p q' h
          exact ⟨(memP p).mpr (.inl this.1), (memP q').mpr (.inl this.2)⟩
        · have h := List.mem_singleton.mp h
          rw [Prod.mk.injEq] at h
          exact ⟨(memP p).mpr (.inr (.inl h.1)), (memP q').mpr (.inr (.inr h.2))⟩
  rintro σ' G14 H14 e3 e4 ⟨v4, a5, pl, rfl, r4, hpl, hpa, hps⟩
  rw [List.take_length] at hps
  have x214 : Ex G2 G14 := x211.trans (n12.g.trans (n13.g.trans e3))
  have rl14 := (rLog K).ex (n12.g.trans (n13.g.trans e3)) rl11
  have aP : Alike L (onlyL L pl) := ⟨W.only pl, rfl, .inr fun x y t => only_le t, .inr fun x y t => least_bt W hno hls hps t⟩
  refine q_if1 (b := false) (et_test (ev_notTrue (ev_true (X := HasAll (BtA L) (BtA (onlyL L pl)) ∧ HasAll (BtA (onlyL L pl)) (BtA L)) (ev_call2 (R := rLog K) (S := rLog K) (PB := fun y => y = onlyL L pl) (ev_var rfl rl14) (ev_meth1 (R := rLog K) (S := rL rN) (log_ins) (ev_var rfl rl14) (ev_var rfl r4) fun G15 v1 x1 w1 y1 e3 r1 p1 r2 p2 => ?_) fun G15 v1 x1 w1 y1 e3 r1 p1 r2 p2 => ?_) ⟨aP.one, aP.two⟩))) e4 (fun hb => by cases hb) fun _ G15 H15 n15 => ?_
  · subst p1 p2
    exact mkSp_use (args := aOnl K) (x1, y1) ⟨⟨W, hpa⟩, v1, w1, rfl, r1, r2⟩
  · subst p1 p2
    exact mkSp_use (args := aL2 K) (x1, onlyL x1 pl) ⟨⟨W, aP.wf, rfl⟩, v1, w1, rfl, r1, r2⟩
  have rl15 := (rLog K).ex n15.g rl14
  refine q_asgP (R := rO (rExp K)) (PA := fun y => IsExp L y) (ev_lc0 W (ev_var rfl rl15)) n15.s fun ve G16 H16 ex n16 re hex => ?_
  obtain ⟨X, rfl⟩ : ∃ X, ex = some X := by
    cases ex with
    | none => exact absurd (hex.no.mp rfl) hnr
    | some X => exact ⟨X, rfl⟩
  have re : (rExp K).is G16 ve X := re.2
  have hd := hex.dep X rfl
  have rl16 := (rLog K).ex n16.g rl15
  refine q_asg (R := rL rN) (x := ansL L) (ev_lm0 W (ev_var rfl rl16)) n16.s fun va G17 H17 n17 ra => ?_
  refine q_if1 (b := decide ((ansL L).length = 0)) (et_test (ev_val (ev_eqI (ev_N (ev_len (ev_var rfl ra))) ev_int) (decide_eq_decide.mpr (by omega)))) n17.s (fun hb G18 H18 n18 => ?_) fun hb G18 H18 n18 => ?_
  · exact s_ret ev_bl n18.s fun v5 G5 H5 n5 r5 => qt r5 rfl
  have hne := of_decide_eq_false hb
  have ra18 := (rL rN).ex n18.g ra
  have x218 : Ex G2 G18 := x214.trans (n15.g.trans (n16.g.trans (n17.g.trans n18.g)))
  have x118 : Ex G1 G18 := n2.g.trans x218
  have rl18 := (rLog K).ex (n17.g.trans n18.g) rl16
  have re18 := (rExp K).ex (n17.g.trans n18.g) re
  obtain ⟨y50, hy50⟩ := nx 50 (by omega)
  obtain ⟨y51, hy51⟩ := nx 51 (by omega)
  obtain ⟨y52, hy52⟩ := nx 52 (by omega)
  obtain ⟨r50, hr50, lt50⟩ := mod_nat y50 ((ansL L).length : Int) (by omega)
  have hi0 := W.ilen0
  obtain ⟨r51, hr51, lt51⟩ := mod_nat y51 (L.items.length : Int) (by omega)
  obtain ⟨r52, hr52, lt52⟩ := mod_nat y52 2 (by decide)
  obtain ⟨p, hp⟩ : ∃ p, (ansL L)[r50]? = some p := ⟨_, List.getElem?_eq_getElem (show r50 < (ansL L).length by omega)⟩
  obtain ⟨it, hit⟩ : ∃ x, L.items[r51]? = some x := ⟨_, List.getElem?_eq_getElem (show r51 < L.items.length by omega)⟩
  have hpa2 := mem_ansL.mp (List.mem_of_getElem? hp)
  have hiti := List.mem_of_getElem? hit
  obtain ⟨row, hrow, hrk⟩ := hex.bars X rfl p hpa2
  obtain ⟨qi, hqi, hq0⟩ := hd.all it hiti
  refine q_asg (R := rN) (x := p) (ev_ixL (ev_var rfl ra18) (ev_val (ev_modI (ev_int1 (ev_ixL (i := 50) (ev_var rfl ((rL FW.rI).ex x118 rn)) ev_int hy50)) (ev_N (ev_len (ev_var rfl ra18))) (by omega)) hr50) hp) n18.s fun u8 G19 H19 n19 r8 => ?_
  cases r8
  have x219 := x218.trans n19.g
  have partI : ∀ {σ : L2.St} {G' : Hp}, σ[2]? = some (some vp) → Ex G2 G' → EvD (rL rS) (tOp (rIxT K) (tVar 2) (tC (.int ((0 : Nat) : Int)))) σ G' L.items := fun {σ G'} hσ e2 => part 0 L.items hσ e2 fun G2 v r => by
    obtain ⟨a, v1, v2, v3, v4, rfl, h, h1, h2, h3, h4⟩ := r
    exact ⟨a, _, v1, rfl, h, rfl, h1⟩
  refine q_asg (R := rS) (x := it) (ev_ixL (partI rfl x219) (ev_val (ev_modI (ev_int1 (ev_ixL (i := 51) (ev_var rfl ((rL FW.rI).ex (x118.trans n19.g) rn)) ev_int hy51)) (ev_N (ev_len (partI rfl x219))) (by omega)) hr51) hit) n19.s fun u9 G20 H20 n20 r9 => ?_
  cases r9
  have re20 := (rExp K).ex (n19.g.trans n20.g) re18
  have g9 := W.g9
  have hrl := hrk.len
  refine q_asg (R := rN) (x := (row.filter fun b => decide (b ≤ qi)).length) (ev_len (R := FW.rI) (ev_val (ev_lcD (R := FW.rI) (f := fun b => b) (p := fun b => decide (b ≤ qi)) (ei_list (ev_dget (RK := rN) inj_N key_N (ev_Dr (ev_expB T (ev_var rfl re20))) (ev_var rfl rfl) hrow)) (by omega) fun b hb G21 u e21 r => ?_) (List.map_id' _))) n20.s fun u10 G21 H21 n21 r10 => ?_
  · cases r
    exact ⟨_, tg_name, rfl, et_test (ev_cmpI (r := fun i j => decide (i ≤ j)) (ev_var rfl rfl) (ev_dget (RK := rS) inj_S key_S (ev_Dr (ev_expQ T (ev_var rfl ((rExp K).ex e21 re20)))) (ev_var rfl rfl) hqi)), fun _ => ev_var rfl rfl⟩
  cases r10
  have hgl : (row.filter fun b => decide (b ≤ qi)).length ≤ row.length := List.length_filter_le _ _
  have rl21 := (rLog K).ex (n19.g.trans (n20.g.trans n21.g)) rl18
  have hjp := W.ansj hpa2
  have hpl := isAns_lt hpa2
  have hev : EvOk L.items L.grades (L.judges.map (·.1)) (.ans (jgOf L p) it ((row.filter fun b => decide (b ≤ qi)).length : Int)) := ⟨hjp.1, hiti, by omega, by have := W.g1; omega⟩
  refine q_asgP (R := rLog K) (PA := fun y => y = putE L (p + r52) (.ans (jgOf L p) it ((row.filter fun b => decide (b ≤ qi)).length : Int))) (ev_meth2 (R := rLog K) (S := rN) (T := rE) (PB := fun y => y = p + r52) (PC := fun y => y = .ans (jgOf L p) it ((row.filter fun b => decide (b ≤ qi)).length : Int)) (log_ins) (ev_var rfl rl21) (ev_toN (ev_addI (ev_N (ev_var rfl rfl)) (ev_val (ev_modI (ev_int1 (ev_ixL (i := 52) (ev_var rfl ((rL FW.rI).ex (x118.trans (n19.g.trans (n20.g.trans n21.g))) rn)) ev_int hy52)) ev_int (by decide)) hr52)) (by omega)) ((ev_tup4 (R := rS) (S := rS) (T := rS) (U := rN) (PA := fun z => z = "answer") (PB := fun z => z = jgOf L p) (PC := fun z => z = it) (PD := fun z => z = (row.filter fun b => decide (b ≤ qi)).length) ev_str (ev_lmP W hpa2 (ev_var rfl rl21) (ev_var rfl rfl)) (ev_var rfl rfl) (ev_var rfl rfl)).as fun G2 v x e r p => ?_) fun G22 v1 x1 w1 y1 w2 y2 e3 r1 p1 r2 p2 r3 p3 => ?_) n21.s fun vw G22 H22 Wd n22 rw_ hWd => ?_
  · obtain ⟨aa, v1, v2, v3, v4, rfl, ha1, h1, h2, h3, h4⟩ := r
    cases h1; cases h2; cases h3; cases h4
    exact ⟨_, ⟨aa, rfl, by rw [ha1, p.1, p.2.1, p.2.2.1, p.2.2.2]; rfl⟩, rfl⟩
  · subst p1 p2 p3
    cases r2
    exact mkSp_use (args := aWa K) (x1, p + r52, _) ⟨⟨W, by dsimp only; omega, hev, by dsimp only; omega⟩, v1, w2, rfl, r1, r3⟩
  subst hWd
  have WW := W.put (m := p + r52) hev (by omega)
  have rl22 := (rLog K).ex n22.g rl21
  have hring : ¬ ∃ x, BtA (putE L (p + r52) (.ans (jgOf L p) it ((row.filter fun b => decide (b ≤ qi)).length : Int))) x x := fun ⟨x, hx⟩ => by
    have up : ∀ a b, BtA (putE L (p + r52) (.ans (jgOf L p) it ((row.filter fun b => decide (b ≤ qi)).length : Int))) a b → ∀ na nb, look X.1 a = some na → look X.1 b = some nb → na < nb := fun a b t => by
      induction t with
      | single l => exact fun na nb ha hb => wide_up W hd hpa2 hrk hiti hqi (by omega) l ha hb
      | tail t l ih =>
        intro na nb ha hb
        have hci := (WW.lkr l).1
        obtain ⟨nc, hc, _⟩ := hd.all _ hci
        have h1 := ih na nc ha hc
        have h2 := wide_up W hd hpa2 hrk hiti hqi (by omega) l hc hb
        omega
    obtain ⟨n, hn, _⟩ := hd.all x (WW.bt hx).1
    have := up x x hx n n hn hn
    omega
  have hall : HasAll (BtA (putE L (p + r52) (.ans (jgOf L p) it ((row.filter fun b => decide (b ≤ qi)).length : Int)))) (BtA L) := .inr fun x y t => RB.tg_mono (fun a b l => RB.LkR.mono (fun _ _ => trivial) (((RB.cut_put (L := L) (L' := putE L (p + r52) (.ans (jgOf L p) it ((row.filter fun b => decide (b ≤ qi)).length : Int))) (by omega) rfl rfl rfl).lk a b).mp l)) t
  exact s_ret (ev_val (ev_andV (a := true) (b := true) (ev_val (ev_ringN WW (ev_var rfl rw_)) (decide_eq_true hring)) fun _ => ev_true (ev_says WW W rfl (ev_var rfl rw_) (ev_var rfl rl22)) hall) rfl) n22.s fun v5 G5 H5 n5 r5 => qt r5 rfl)
end
end FW
namespace FW
open PySem PySem.Spec PyProof.Rows L2
theorem law_facts {P : Program} {w : World} {K : PySem.W.Frag} {h : Heap} {mg : Str → Option Value} {f : Addr} (X : K.In h) (G : h.Ns mainGlobals mg) (hmg : mg ("law" : Str) = some (.ref f)) (c : Hd.Says Hd.f_list Hd.p_list Hd.d_list K) :
    ∃ fd : FuncData, (∀ (s : Shared) (v : Value), BindsTo s fd ⟨[v], []⟩ [("_law_script", v)]) ∧ ∀ base : Heap, K.In base → base.Ns mainGlobals mg → FnOk P w K mg base CX0 12 f fd ["_law_script"] (sp_law K) := by
  have T : Tx K mg := ⟨c, h, X, G⟩
  obtain ⟨fd, F⟩ := T.fn 59 rfl
  have e : f = He.ga K "law" := by
    have q := hmg.symm.trans (T.glo 35 rfl)
    injection q with q
    injection q
  have b : ∀ (s : Shared) (v : Value), BindsTo s fd ⟨[v], []⟩ [("_law_script", v)] := by
    intro s v
    obtain ⟨oc, od, kV, doc, pm, an, cdv, ct, osl, rfl, lk, hcd⟩ := F.ex
    exact .of_eq rfl
  subst e
  exact ⟨fd, b, fun base _ _ => F.ok sc_law ln_law (hb_law T)⟩
end FW
open PySem PySem.W PySem.Calls PyProof.Rows
theorem PySem.Challenge.cw_risingbars_k73_whole_logs_that_say_the_s_holds : PySem.Challenge.rw_risingbars_k73_whole_logs_that_say_the_s.Holds := by
  w_on; o_law
  refine HandSHeadRun.head_any (r := OpenLaw.row PySem.Challenge.rw_risingbars_k73_whole_logs_that_say_the_s) (q := view (OpenLaw.row PySem.Challenge.rw_risingbars_k73_whole_logs_that_say_the_s).prog [64]) (H := Hd.hk) (ob := Hd.ob) (M := 20000) (loose := Hd.loose) (d := HandSHeadRun.topDef (OpenLaw.row PySem.Challenge.rw_risingbars_k73_whole_logs_that_say_the_s).prog 64) (kwd := []) Hd.ob_eq
    (by kernel_rfl) (fun s => by kernel_rfl) Hd.run (by kernel_rfl) (by kernel_rfl) (by kernel_rfl) (by rfl) (by first | assumption | decide +kernel) (by decide +kernel) ⟨rfl, rfl, rfl, rfl, rfl, by decide +kernel⟩ ?hw ?hc
  case hw => w_witness2
  case hc =>
    refine L2.walk_ofE (l := PySem.Challenge.rw_risingbars_k73_whole_logs_that_say_the_s) (n := 63) (k := 12) (x := "_law_script") (CX := L2.CX0) rfl (by decide) (by kernel_rfl) ⟨rfl, by decide, by decide⟩ ?F (fun _ _ _ _ z => z)
    intro w mg fa h Y G hmg0
    obtain ⟨K, KX, c⟩ := Y
    have hmg : mg ("law" : PySem.Str) = some (.ref fa) := by
      have e : (HandSHeadRun.topDef (OpenLaw.row PySem.Challenge.rw_risingbars_k73_whole_logs_that_say_the_s).prog 64).name = ("law" : PySem.Str) := by kernel_rfl
      rw [← e]
      exact hmg0
    obtain ⟨fd, hb, hF⟩ := FW.law_facts (P := (PySem.Challenge.rw_risingbars_k73_whole_logs_that_say_the_s).prog) (w := w) KX G hmg c
    exact ⟨K, fd, FW.sp_law K, KX, hb, fun H a ns hl _ hS => ⟨H, ns, .ref a, FW.Ex.refl H, rfl, ⟨a, rfl, hS⟩, fun _ => rfl⟩, hF⟩
